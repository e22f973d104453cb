import PyProof.Rows.All
import Wide.All
import OpenK.AllK
import Wide.FinOn
import HandS.ForMost
import HandS.ForExc
import HandS.Wide
import HandS.WideBits
import HandS.IsInst
import HandS.StrMore
import HandS.EndBits
import HandS.Lambda
import HandS.RevRange
import PyProof.EqAt
import PyProof.EqKinds
import PyProof.TupleCall
import Open.SpecLaws
import KE.OsGo
import HandS.ForSpec
import HandS.ExcField
import HandS.TryMany
import HandS.TryOnly
import HandS.Defaults
import HandS.CallSlots
import KE.KExcIs
import HandS.Conv
import KE.DataCmp
import HandS.Deep
import HandS.ClsMeth
import HandS.More
import HandS.SortInts
import HandS.Zip
import HandS.Rev
import HandS.RevTup
import HandS.MapJoin
import PyProof.ListRange
import HandS.Codes
import HandS.HotCalls
import HandS.SuiteRaise
import HandS.SortKw
import KE.SortKeyHeap
import HandS.EndTab
import KE.DataMinMax
import HandS.SetKeys
import PyProof.Draws
import PyProof.EnumMake
import PyProof.WalkInts
import KE.KMinKey
import PySem.Challenge.RW_letterlaw_k61_led

set_option Elab.async false
set_option linter.all false
set_option maxRecDepth 100000
set_option maxHeartbeats 2000000
/-! Vs: a reading of a def's text as a plain function over values (lists and tuples as trees), proved over the hand layer once for each construct. -/
namespace Vs
open PySem L2

/-- an error of the program's own: the number of its class, the value of its one attribute -/
structure Ex where
  c : Nat
  a : Option Int
/-- where a caught error stands -/
structure Xo where
  a : Addr
  cls : Value
  d : Option Addr
/-- values as trees -/
inductive D where
  | non | bl (b : Bool) | int (i : Int) | str (w : List Nat) | lst (l : List D) | tup (l : List D) | ob (c : Nat) (l : List D) | scr (ns : List Int) | xn (o : Xo) (x : Ex)
/-- a field of an own object: shared, or a list of its own -/
inductive Fd where
  | sh (d : D) | ow (l : List D)
def Fd.d : Fd → D
  | .sh d => d
  | .ow l => .lst l
/-- own things: a list, an object, a dict -/
inductive O where
  | ls (l : List D) | ob (c : Nat) (fs : List Fd) | dc (kvs : List (D × D)) | sq (t : Bool) (fs : List Fd)
/-- a list or a tuple -/
def sqD : Bool → List D → D
  | true, l => .tup l
  | false, l => .lst l
/-- .. given away -/
def O.d : O → Option D
  | .ls l => some (.lst l)
  | .ob c fs => some (.ob c (fs.map Fd.d))
  | .dc _ => none
  | .sq t fs => some (sqD t (fs.map Fd.d))

def S (w : List Nat) : Str := ⟨w.toArray⟩
theorem S_list (x : Str) : S x.cps.toList = x := by cases x; rfl
theorem S_cps (w : List Nat) : (S w).cps.toList = w := rfl
theorem S_len (w : List Nat) : (S w).length = w.length := by simp [S, Str.length]
theorem S_inj {a b : List Nat} (h : S a = S b) : a = b := by
  have := congrArg (fun z : Str => z.cps.toList) h
  simpa [S_cps] using this

/-- the written part, and what classes are made of -/
structure Kx where
  K : PySem.W.Frag
  cl : Nat → Addr
  fl : Nat → List Str
  xc : Nat → Addr
  xf : Nat → Option Str
  tb : List (Addr × Str)

/-- no code table -/
def nt (o : HO) : Prop := ∀ ps, o ≠ .tbl ps
/-- .. nor a thing told by a truth -/
def pln (o : HO) : Prop := nt o ∧ ∀ φ, o ≠ .ext φ
/-- all stays, but that tables may grow -/
def Grw (H H' : Hp) : Prop := ∀ a o, H a = some o → ∃ o', H' a = some o' ∧ (nt o → o' = o)
theorem Grw.at {H H' : Hp} (h : Grw H H') {a : Addr} {o : HO} (e : H a = some o) (n : nt o := by first | assumption | exact fun _ z => nomatch z | exact And.left (by assumption)) : H' a = some o := by
  obtain ⟨o', h1, h2⟩ := h a o e
  rw [h1, h2 n]
theorem Grw.refl (H : Hp) : Grw H H := fun _ o h => ⟨o, h, fun _ => rfl⟩
theorem Grw.trans {H H1 H2 : Hp} (x : Grw H H1) (y : Grw H1 H2) : Grw H H2 := fun a o e => by
  obtain ⟨o1, h1, n1⟩ := x a o e
  obtain ⟨o2, h2, n2⟩ := y a o1 h1
  exact ⟨o2, h2, fun n => by
    have := n1 n
    subst this
    exact n2 n⟩
theorem gr {H H' : Hp} (s : Same H H') : Grw H H' := fun a o e => ⟨o, s a o e, fun _ => rfl⟩
instance {H H' : Hp} : Coe (Same H H') (Grw H H') := ⟨gr⟩
/-- the shared part of a heap; the tables stand -/
structure Sub (κ : Kx) (G H : Hp) : Prop where
  s : Same G H
  n : ∀ a o, G a = some o → nt o
  t : LamX.Tabs κ.tb H
instance {κ : Kx} {G H : Hp} : CoeFun (Sub κ G H) fun _ => ∀ a o, G a = some o → H a = some o := ⟨fun z => z.s⟩
instance {κ : Kx} {G H : Hp} : CoeOut (Sub κ G H) (Same G H) := ⟨Sub.s⟩
/-- tables stand where tables and truths stay -/
theorem tabs_of {T : List (Addr × Str)} {H H' : Hp} (t : LamX.Tabs T H) (k : ∀ a o, H a = some o → ¬ pln o → H' a = some o) : LamX.Tabs T H' := fun p hp => by
  obtain ⟨ps, h1, h2, h3⟩ := t p hp
  refine ⟨ps, k _ _ h1 fun z => z.1 ps rfl, h2, fun pos cv hc => ?_⟩
  obtain ⟨c, e1, e2⟩ := h3 pos cv hc
  exact ⟨c, e1, k _ _ e2 fun z => z.2 _ rfl⟩
theorem Sub.kept {κ : Kx} {G H H' : Hp} (z : Sub κ G H) (k : ∀ a o, H a = some o → H' a = some o) : Sub κ G H' := ⟨fun a o e => k a o (z.s a o e), z.n, tabs_of z.t fun a o e _ => k a o e⟩
def XR (κ : Kx) (H : Hp) (x : Ex) (c : Value) (d : Option Addr) : Prop := c = .ref (κ.xc x.c) ∧ match κ.xf x.c, x.a with
  | none, _ => d = none
  | some f, some z => ∃ b, d = some b ∧ H b = some (.xd [(f, .int z)])
  | some _, none => False
mutual
inductive Rp (κ : Kx) (G : Hp) : V → D → Prop
  | non : Rp κ G .non .non
  | bl (b : Bool) : Rp κ G (.bl b) (.bl b)
  | int (i : Int) : Rp κ G (.int i) (.int i)
  | str (w : List Nat) : Rp κ G (.str (S w)) (.str w)
  | lst {a : Addr} {xs : List V} {ds : List D} : G a = some (.lst xs) → RpA κ G xs ds → Rp κ G (.ref a) (.lst ds)
  | tup {a : Addr} {xs : List V} {ds : List D} : G a = some (.tup xs) → RpA κ G xs ds → Rp κ G (.ref a) (.tup ds)
  | ob {a dx : Addr} {c : Nat} {fs : List (Str × V)} {ds : List D} : G a = some (.ins (κ.cl c) dx fs) → fs.map Prod.fst = (κ.fl c).take ds.length → RpA κ G (fs.map Prod.snd) ds → Rp κ G (.ref a) (.ob c ds)
  | scr {a : Addr} {ns : List Int} : SqL κ.K G a (ns.map V.int) → Rp κ G (.ref a) (.scr ns)
  | xn {o : Xo} {x : Ex} : XR κ G x o.cls o.d → Rp κ G (.ref o.a) (.xn o x)
inductive RpA (κ : Kx) (G : Hp) : List V → List D → Prop
  | nil : RpA κ G [] []
  | cons {v : V} {vs : List V} {d : D} {ds : List D} : Rp κ G v d → RpA κ G vs ds → RpA κ G (v :: vs) (d :: ds)
end

theorem grw_rd {H H' : Hp} {a : Addr} {u : HO} (e : Grw H H') (n : nt u) (h : Rd H a u) : Rd H' a u := by
  rcases h with h | ⟨o, h⟩
  · exact Or.inl (e.at h)
  · exact Or.inr ⟨o, e.at h⟩
theorem same_l {K : PySem.W.Frag} {H H' : Hp} {a : Addr} {xs : List V} (e : Grw H H') (h : SqL K H a xs) : SqL K H' a xs := h.imp (grw_rd e fun _ z => nomatch z) id
section
variable {κ : Kx} {G G' H H' : Hp}
theorem XR.mono (e : Same G G') {x : Ex} {c : Value} {d : Option Addr} (h : XR κ G x c d) : XR κ G' x c d := by
  refine ⟨h.1, ?_⟩
  have h2 := h.2
  split at h2
  · exact h2
  · obtain ⟨b, h3, h4⟩ := h2
    exact ⟨b, h3, e _ _ h4⟩
  · exact h2
mutual
theorem Rp.mono (e : Same G G') : ∀ {v : V} {d : D}, Rp κ G v d → Rp κ G' v d
  | _, _, .non => .non
  | _, _, .bl b => .bl b
  | _, _, .int i => .int i
  | _, _, .str w => .str w
  | _, _, .lst h t => .lst (e _ _ h) (RpA.mono e t)
  | _, _, .tup h t => .tup (e _ _ h) (RpA.mono e t)
  | _, _, .scr h => .scr (same_l e h)
  | _, _, .xn h => .xn (h.mono e)
  | _, _, .ob h1 h2 t => .ob (e _ _ h1) h2 (RpA.mono e t)
theorem RpA.mono (e : Same G G') : ∀ {vs : List V} {ds : List D}, RpA κ G vs ds → RpA κ G' vs ds
  | _, _, .nil => .nil
  | _, _, .cons h t => .cons (Rp.mono e h) (RpA.mono e t)
end
theorem RpA.length : ∀ {vs : List V} {ds : List D}, RpA κ G vs ds → vs.length = ds.length
  | _, _, .nil => rfl
  | _, _, .cons _ t => by simp [RpA.length t]
theorem RpA.get : ∀ {vs : List V} {ds : List D} {i : Nat} {v : V}, RpA κ G vs ds → vs[i]? = some v → ∃ d, ds[i]? = some d ∧ Rp κ G v d
  | _, _, _, _, .nil, e => by simp at e
  | _, _, 0, _, .cons r _, e => by simp at e; subst e; exact ⟨_, rfl, r⟩
  | _, _, i + 1, v, .cons _ t, e => by
    obtain ⟨d, h1, h2⟩ := RpA.get (i := i) (v := v) t (by simpa using e)
    exact ⟨d, by simpa using h1, h2⟩
theorem RpA.getD : ∀ {vs : List V} {ds : List D} {i : Nat} {d : D}, RpA κ G vs ds → ds[i]? = some d → ∃ v, vs[i]? = some v ∧ Rp κ G v d
  | _, _, _, _, .nil, e => by simp at e
  | _, _, 0, _, .cons r _, e => by simp at e; subst e; exact ⟨_, rfl, r⟩
  | _, _, i + 1, v, .cons _ t, e => by
    obtain ⟨d, h1, h2⟩ := RpA.getD (i := i) (d := v) t (by simpa using e)
    exact ⟨d, by simpa using h1, h2⟩
theorem RpA.append : ∀ {vs us : List V} {ds es : List D}, RpA κ G vs ds → RpA κ G us es → RpA κ G (vs ++ us) (ds ++ es)
  | _, _, _, _, .nil, s => s
  | _, _, _, _, .cons r t, s => .cons r (RpA.append t s)
theorem RpA.take : ∀ {vs : List V} {ds : List D} (n : Nat), RpA κ G vs ds → RpA κ G (vs.take n) (ds.take n)
  | _, _, 0, _ => by simpa using RpA.nil
  | _, _, _ + 1, .nil => by simpa using RpA.nil
  | _, _, n + 1, .cons r t => .cons r (RpA.take n t)
theorem RpA.drop : ∀ {vs : List V} {ds : List D} (n : Nat), RpA κ G vs ds → RpA κ G (vs.drop n) (ds.drop n)
  | _, _, 0, r => r
  | _, _, _ + 1, .nil => by simpa using RpA.nil
  | _, _, n + 1, .cons _ t => RpA.drop n t
theorem RpA.set {v : V} {d : D} (r : Rp κ G v d) : ∀ {vs : List V} {ds : List D} (n : Nat), RpA κ G vs ds → RpA κ G (vs.set n v) (ds.set n d)
  | _, _, _, .nil => .nil
  | _, _, 0, .cons _ t => .cons r t
  | _, _, n + 1, .cons q t => .cons q (RpA.set r n t)
theorem RpA.ints : ∀ ns : List Int, RpA κ G (ns.map V.int) (ns.map D.int)
  | [] => .nil
  | n :: r => .cons (.int n) (RpA.ints r)
end

/-! ### own things -/
/-- the shared part of the heap, and each slot's own addresses -/
structure Gh where
  g : Hp
  fp : Nat → List Addr
instance : Coe Gh Hp := ⟨Gh.g⟩
def Gh.up (G : Gh) (p : Addr) (o : HO) : Gh := ⟨upd G.g p o, G.fp⟩
def Gh.put (G : Gh) (i : Nat) (F : List Addr) : Gh := ⟨G.g, fun j => if j = i then F else G.fp j⟩
inductive RFs (κ : Kx) (H G : Hp) : List V → List Fd → List Addr → Prop
  | nil : RFs κ H G [] [] []
  | sh {v : V} {vs : List V} {d : D} {fs : List Fd} {F : List Addr} : Rp κ G v d → RFs κ H G vs fs F → RFs κ H G (v :: vs) (.sh d :: fs) F
  | ow {a : Addr} {xs : List V} {l : List D} {vs : List V} {fs : List Fd} {F : List Addr} : H a = some (.lst xs) → G a = none → RpA κ G xs l → a ∉ F → RFs κ H G vs fs F → RFs κ H G (.ref a :: vs) (.ow l :: fs) (a :: F)
def kD : Key → D
  | .inl i => .int i
  | .inr x => .str x.cps.toList
inductive RDc (κ : Kx) (G : Hp) : List (Key × V) → List (D × D) → Prop
  | nil : RDc κ G [] []
  | cons {k : Key} {v : V} {d : D} {r : List (Key × V)} {ds : List (D × D)} : Rp κ G v d → RDc κ G r ds → RDc κ G ((k, v) :: r) ((kD k, d) :: ds)
def sqH : Bool → List V → HO
  | true, xs => .tup xs
  | false, xs => .lst xs
inductive RO (κ : Kx) (H G : Hp) : V → O → List Addr → Prop
  | ls {a : Addr} {xs : List V} {l : List D} : H a = some (.lst xs) → G a = none → RpA κ G xs l → RO κ H G (.ref a) (.ls l) [a]
  | ob {a dx : Addr} {c : Nat} {ys : List (Str × V)} {fs : List Fd} {F : List Addr} : H a = some (.ins (κ.cl c) dx ys) → G a = none → ys.map Prod.fst = (κ.fl c).take fs.length → RFs κ H G (ys.map Prod.snd) fs F → a ∉ F → RO κ H G (.ref a) (.ob c fs) (a :: F)
  | dc {a : Addr} {kvs : List (Key × V)} {ds : List (D × D)} : H a = some (.dK kvs) → G a = none → RDc κ G kvs ds → RO κ H G (.ref a) (.dc ds) [a]
  | sq {a : Addr} {t : Bool} {xs : List V} {fs : List Fd} {F : List Addr} : H a = some (sqH t xs) → G a = none → RFs κ H G xs fs F → a ∉ F → RO κ H G (.ref a) (.sq t fs) (a :: F)
section
variable {κ : Kx} {G G' H H' : Hp} {v : V} {vs : List V} {fs : List Fd} {o : O} {F : List Addr} {a : Addr}
theorem RFs.own : ∀ {vs : List V} {fs : List Fd} {F : List Addr}, RFs κ H G vs fs F → ∀ {a : Addr}, a ∈ F → (∃ o, H a = some o) ∧ G a = none
  | _, _, _, .nil, a, h => by cases h
  | _, _, _, .sh _ t, a, h => RFs.own t h
  | _, _, _, .ow h1 h2 _ _ t, a, h => by
    rcases List.mem_cons.mp h with e | h
    · subst e; exact ⟨⟨_, h1⟩, h2⟩
    · exact RFs.own t h
theorem RO.own (r : RO κ H G v o F) (h : a ∈ F) : (∃ o, H a = some o) ∧ G a = none := by
  cases r with
  | ls h1 h2 _ =>
    have e := List.mem_singleton.mp h
    subst e
    exact ⟨⟨_, h1⟩, h2⟩
  | ob h1 h2 _ t _ =>
    rcases List.mem_cons.mp h with e | h
    · subst e; exact ⟨⟨_, h1⟩, h2⟩
    · exact t.own h
  | sq h1 h2 t _ =>
    rcases List.mem_cons.mp h with e | h
    · subst e; exact ⟨⟨_, h1⟩, h2⟩
    · exact t.own h
  | dc h1 h2 _ =>
    have e := List.mem_singleton.mp h
    subst e
    exact ⟨⟨_, h1⟩, h2⟩
theorem sqH_pln (t : Bool) (xs : List V) : pln (sqH t xs) := by
  cases t <;> exact ⟨(fun _ z => nomatch z), (fun _ z => nomatch z)⟩
theorem RFs.pl : ∀ {vs : List V} {fs : List Fd} {F : List Addr}, RFs κ H G vs fs F → ∀ {a : Addr} {u : HO}, a ∈ F → H a = some u → pln u
  | _, _, _, .nil, a, u, h, e => by cases h
  | _, _, _, .sh _ t, a, u, h, e => RFs.pl t h e
  | _, _, _, .ow h1 h2 _ _ t, a, u, h, e => by
    rcases List.mem_cons.mp h with z | h
    · subst z
      rw [h1] at e
      cases e
      exact ⟨(fun _ z => nomatch z), (fun _ z => nomatch z)⟩
    · exact RFs.pl t h e
theorem RO.pl (r : RO κ H G v o F) {u : HO} (h : a ∈ F) (e : H a = some u) : pln u := by
  cases r with
  | ls h1 h2 _ =>
    have z := List.mem_singleton.mp h
    subst z
    rw [h1] at e
    cases e
    exact ⟨(fun _ z => nomatch z), (fun _ z => nomatch z)⟩
  | ob h1 h2 _ t _ =>
    rcases List.mem_cons.mp h with z | h
    · subst z
      rw [h1] at e
      cases e
      exact ⟨(fun _ z => nomatch z), (fun _ z => nomatch z)⟩
    · exact t.pl h e
  | sq h1 h2 t _ =>
    rcases List.mem_cons.mp h with z | h
    · subst z
      rw [h1] at e
      cases e
      exact sqH_pln _ _
    · exact t.pl h e
  | dc h1 h2 _ =>
    have z := List.mem_singleton.mp h
    subst z
    rw [h1] at e
    cases e
    exact ⟨(fun _ z => nomatch z), (fun _ z => nomatch z)⟩
theorem RFs.grow (g : Same G G') : ∀ {vs : List V} {fs : List Fd} {F : List Addr}, RFs κ H G vs fs F → (∀ a o, a ∈ F → H a = some o → H' a = some o) → (∀ a, a ∈ F → G' a = none) → RFs κ H' G' vs fs F
  | _, _, _, .nil, _, _ => .nil
  | _, _, _, .sh r t, h, n => .sh (r.mono g) (RFs.grow g t h n)
  | _, _, _, .ow h1 h2 r m t, h, n => .ow (h _ _ List.mem_cons_self h1) (n _ List.mem_cons_self) (r.mono g) m (RFs.grow g t (fun a o q => h a o (List.mem_cons_of_mem _ q)) fun a q => n a (List.mem_cons_of_mem _ q))
theorem RDc.mono (g : Same G G') : ∀ {kvs : List (Key × V)} {ds : List (D × D)}, RDc κ G kvs ds → RDc κ G' kvs ds
  | _, _, .nil => .nil
  | _, _, .cons r t => .cons (r.mono g) (RDc.mono g t)
theorem RO.grow (g : Same G G') (r : RO κ H G v o F) (h : ∀ a o, a ∈ F → H a = some o → H' a = some o) (n : ∀ a, a ∈ F → G' a = none) : RO κ H' G' v o F := by
  cases r with
  | ls h1 h2 t => exact .ls (h _ _ List.mem_cons_self h1) (n _ List.mem_cons_self) (t.mono g)
  | ob h1 h2 h3 t m => exact .ob (h _ _ List.mem_cons_self h1) (n _ List.mem_cons_self) h3 (t.grow g (fun a o q => h a o (List.mem_cons_of_mem _ q)) fun a q => n a (List.mem_cons_of_mem _ q)) m
  | dc h1 h2 t => exact .dc (h _ _ List.mem_cons_self h1) (n _ List.mem_cons_self) (t.mono g)
  | sq h1 h2 t m => exact .sq (h _ _ List.mem_cons_self h1) (n _ List.mem_cons_self) (t.grow g (fun a o q => h a o (List.mem_cons_of_mem _ q)) fun a q => n a (List.mem_cons_of_mem _ q)) m
open Classical in
/-- own addresses given away -/
noncomputable def frzG (H G : Hp) (F : List Addr) : Hp := fun a => if a ∈ F then H a else G a
theorem frz_in (h : a ∈ F) : frzG H G F a = H a := by unfold frzG; rw [if_pos h]
theorem frz_out (h : a ∉ F) : frzG H G F a = G a := by unfold frzG; rw [if_neg h]
theorem same_frz (n : ∀ a, a ∈ F → G a = none) : Same G (frzG H G F) := fun a o e => by
  by_cases h : a ∈ F
  · rw [n a h] at e; cases e
  · rw [frz_out h]; exact e
theorem frz_same (s : Same G H) : Same (frzG H G F) H := fun a o e => by
  by_cases h : a ∈ F
  · rw [frz_in h] at e; exact e
  · rw [frz_out h] at e; exact s a o e
theorem frz_sub (s : Sub κ G H) (h : ∀ a o, a ∈ F → H a = some o → nt o) : Sub κ (frzG H G F) H := ⟨frz_same s.s, fun a o e => by
  by_cases m : a ∈ F
  · rw [frz_in m] at e; exact h a o m e
  · rw [frz_out m] at e; exact s.n a o e, s.t⟩
theorem RFs.frz {G0 : Hp} (g : Same G G0) : ∀ {vs : List V} {fs : List Fd} {F : List Addr}, RFs κ H G vs fs F → (∀ a, a ∈ F → G0 a = H a) → RpA κ G0 vs (fs.map Fd.d)
  | _, _, _, .nil, _ => .nil
  | _, _, _, .sh r t, h => .cons (r.mono g) (RFs.frz g t h)
  | _, _, _, .ow h1 h2 r m t, h => .cons (.lst (by rw [h _ List.mem_cons_self]; exact h1) (r.mono g)) (RFs.frz g t fun a q => h a (List.mem_cons_of_mem _ q))
theorem RO.frz {d : D} (r : RO κ H G v o F) (e : o.d = some d) : Rp κ (frzG H G F) v d := by
  have g : Same G (frzG H G F) := same_frz fun a q => (r.own q).2
  cases r with
  | ls h1 h2 t => cases e; exact .lst (by rw [frz_in List.mem_cons_self]; exact h1) (t.mono g)
  | ob h1 h2 h3 t m =>
    cases e
    exact .ob (by rw [frz_in List.mem_cons_self]; exact h1) (by rw [List.length_map]; exact h3) (t.frz g fun a q => by rw [frz_in (List.mem_cons_of_mem _ q)])
  | dc h1 h2 t => cases e
  | @sq a b xs fs F h1 h2 t m =>
    have r := t.frz g fun c q => by rw [frz_in (List.mem_cons_of_mem _ q)]
    cases b with
    | true => cases e; exact .tup (by rw [frz_in List.mem_cons_self]; exact h1) r
    | false => cases e; exact .lst (by rw [frz_in List.mem_cons_self]; exact h1) r
theorem RO.ls_inv {l : List D} (r : RO κ H G v (.ls l) F) : ∃ a xs, v = .ref a ∧ F = [a] ∧ H a = some (.lst xs) ∧ G a = none ∧ RpA κ G xs l := by
  cases r with
  | ls h1 h2 h3 => exact ⟨_, _, rfl, rfl, h1, h2, h3⟩
theorem RO.at (r : RO κ H G v o F) : ∃ a, v = .ref a ∧ a ∈ F := by
  cases r <;> exact ⟨_, rfl, List.mem_cons_self⟩
end

/-- a slot: nothing told; a value that all may hold; a list of the def's own (unlocked, locked by a loop); a list that is only read here; an own thing that was handed in to be changed; an own thing -/
inductive Sl where
  | un | sh (d : D) | ow (l : List D) | lk (l : List D) | bo (l : List D) | io (o : O) | tr (o : O)
def Sl.th : Sl → Option O
  | .ow l => some (.ls l)
  | .lk l => some (.ls l)
  | .io o => some o
  | .tr o => some o
  | _ => none
def Sl.mut : Sl → Bool
  | .ow _ => true
  | .io _ => true
  | .tr _ => true
  | _ => false
abbrev En := List Sl

def Mt (G : Gh) (env : En) (a : Addr) : Prop := ∃ (i : Nat) (s : Sl), env[i]? = some s ∧ s.mut = true ∧ a ∈ G.fp i
def Own (G : Gh) (env : En) (i : Nat) (a : Addr) : Prop := ∃ s o, env[i]? = some s ∧ s.th = some o ∧ a ∈ G.fp i
def RSl (κ : Kx) (H G : Hp) (v : Option (Option V)) (F : List Addr) : Sl → Prop
  | .un => F = []
  | .sh d => F = [] ∧ ∃ x, v = some (some x) ∧ Rp κ G x d
  | .bo l => ∃ a xs, v = some (some (.ref a)) ∧ H a = some (.lst xs) ∧ RpA κ G xs l ∧ F = [a]
  | .ow l => ∃ x, v = some (some x) ∧ RO κ H G x (.ls l) F
  | .lk l => ∃ x, v = some (some x) ∧ RO κ H G x (.ls l) F
  | .io o => ∃ x, v = some (some x) ∧ RO κ H G x o F
  | .tr o => ∃ x, v = some (some x) ∧ RO κ H G x o F
theorem RSl.th {κ : Kx} {H G : Hp} {v : Option (Option V)} {F : List Addr} {s : Sl} {o : O} (r : RSl κ H G v F s) (h : s.th = some o) : ∃ x, v = some (some x) ∧ RO κ H G x o F := by
  cases s <;> cases h <;> exact r
theorem RSl.of {κ : Kx} {H G : Hp} {v : Option (Option V)} {F : List Addr} {s : Sl} {o : O} {x : V} (h : s.th = some o) (e : v = some (some x)) (r : RO κ H G x o F) : RSl κ H G v F s := by
  cases s <;> cases h <;> exact ⟨x, e, r⟩
theorem mut_th {s : Sl} (h : s.mut = true) : ∃ o, s.th = some o := by
  cases s <;> first
    | (cases h; done)
    | exact ⟨_, rfl⟩
structure Rep (κ : Kx) (H : Hp) (G : Gh) (σ : L2.St) (env : En) : Prop where
  sub : Sub κ G.g H
  len : σ.length = env.length
  slot : ∀ (i : Nat) (s : Sl), env[i]? = some s → RSl κ H G σ[i]? (G.fp i) s
  inj : ∀ (i j : Nat) (a : Addr) (t : Sl), Own G env i a → env[j]? = some t → a ∈ G.fp j → i = j
def Sl.fix : Sl → Bool
  | .lk _ => true
  | .bo _ => true
  | .io _ => true
  | _ => false
/-- what a fixed slot was before -/
def Sl.was : Sl → Sl → Prop
  | .io _, s => ∃ o, s = .io o
  | t, s => s = t
/-- a locked slot, and a list that is only read, stand as they were; what was handed in stands where it stood -/
def Lk (G : Gh) (σ : L2.St) (env : En) (G' : Gh) (σ' : L2.St) (env' : En) : Prop := ∀ (i : Nat) (s : Sl), s.fix = true → env'[i]? = some s → ∃ s0, env[i]? = some s0 ∧ s.was s0 ∧ σ'[i]? = σ[i]? ∧ (s0 = s → s.mut = false → G'.fp i = G.fp i)
/-- only the def's own unlocked things may have changed, what is shared stays shared; no old thing has become the def's own -/
structure Fr (H : Hp) (G : Gh) (σ : L2.St) (env : En) (H' : Hp) (G' : Gh) (σ' : L2.St) (env' : En) : Prop where
  hk : ∀ a o, H a = some o → ¬ Mt G env a → ∃ o', H' a = some o' ∧ (nt o → o' = o)
  gk : Same G G'
  gn : ∀ a o, H a = some o → G.g a = none → ¬ Mt G env a → G'.g a = none
  mm : ∀ a o, H a = some o → Mt G' env' a → Mt G env a
  lk : Lk G σ env G' σ' env'
/-- .. where the def ends -/
structure FrR (H : Hp) (G : Gh) (σ : L2.St) (env : En) (H' : Hp) (G' : Gh) : Prop where
  hk : ∀ a o, H a = some o → ¬ Mt G env a → ∃ o', H' a = some o' ∧ (nt o → o' = o)
  gk : Same G G'
  gn : ∀ a o, H a = some o → G.g a = none → ¬ Mt G env a → G'.g a = none
theorem was_refl {s : Sl} (h : s.fix = true) : s.was s := by
  cases s <;> first
    | (cases h; done)
    | rfl
    | exact ⟨_, rfl⟩
theorem was_fix {s t : Sl} (h : s.fix = true) (w : s.was t) : t.fix = true := by
  cases s <;> first
    | (cases h; done)
    | (obtain ⟨o, rfl⟩ := w; rfl)
    | (cases w; rfl)
theorem was_trans {s t u : Sl} (h : s.fix = true) (w : s.was t) (z : t.was u) : s.was u := by
  cases s <;> first
    | (cases h; done)
    | (obtain ⟨o, rfl⟩ := w; exact z)
    | (cases w; exact z)
theorem was_eq {s t : Sl} (h : s.mut = false) (f : s.fix = true) (w : s.was t) : t = s := by
  cases s <;> first
    | (cases f; done)
    | (cases h; done)
    | exact w
theorem Lk.refl {G : Gh} {σ : L2.St} {env : En} : Lk G σ env G σ env := fun _ s f h => ⟨s, h, was_refl f, rfl, fun _ _ => rfl⟩
theorem Fr.at {H H' : Hp} {G G' : Gh} {σ σ' : L2.St} {env env' : En} (f : Fr H G σ env H' G' σ' env') {a : Addr} {o : HO} (e : H a = some o) (m : ¬ Mt G env a) (n : nt o := by first | assumption | exact fun _ z => nomatch z | exact And.left (by assumption)) : H' a = some o := by
  obtain ⟨o', h1, h2⟩ := f.hk a o e m
  rw [h1, h2 n]
/-- one change behind another -/
theorem hk_trans {H1 H2 : Hp} {a : Addr} {o : HO} (x : ∃ o', H1 a = some o' ∧ (nt o → o' = o)) (y : ∀ o', H1 a = some o' → ∃ o2, H2 a = some o2 ∧ (nt o' → o2 = o')) : ∃ o', H2 a = some o' ∧ (nt o → o' = o) := by
  obtain ⟨o1, h1, n1⟩ := x
  obtain ⟨o2, h2, n2⟩ := y o1 h1
  exact ⟨o2, h2, fun n => by
    have := n1 n
    subst this
    exact n2 n⟩
theorem Fr.refl {H : Hp} {G : Gh} {σ : L2.St} {env : En} : Fr H G σ env H G σ env := ⟨fun _ o h _ => ⟨o, h, fun _ => rfl⟩, Same.refl _, fun _ _ _ h _ => h, fun _ _ _ h => h, Lk.refl⟩
theorem Fr.trans {H H1 H2 : Hp} {G G1 G2 : Gh} {σ σ1 σ2 : L2.St} {env env1 env2 : En} (x : Fr H G σ env H1 G1 σ1 env1) (y : Fr H1 G1 σ1 env1 H2 G2 σ2 env2) : Fr H G σ env H2 G2 σ2 env2 where
  hk := fun a o h n => hk_trans (x.hk a o h n) fun o' e => y.hk a o' e fun m => n (x.mm a o h m)
  gk := x.gk.trans y.gk
  gn := fun a o h g n => by
    obtain ⟨o', e, _⟩ := x.hk a o h n
    exact y.gn a o' e (x.gn a o h g n) fun m => n (x.mm a o h m)
  mm := fun a o h m => by
    by_cases n : Mt G env a
    · exact n
    · obtain ⟨o', e, _⟩ := x.hk a o h n
      exact x.mm a o h (y.mm a o' e m)
  lk := fun i l z h => by
    obtain ⟨s1, h1, w1, e1, f1⟩ := y.lk i l z h
    obtain ⟨s2, h2, w2, e2, f2⟩ := x.lk i s1 (was_fix z w1) h1
    refine ⟨s2, h2, was_trans z w1 w2, e1.trans e2, fun q m => ?_⟩
    have q1 := was_eq m z w1
    subst q1
    exact (f1 rfl m).trans (f2 q m)
theorem Fr.toR {H H1 H2 : Hp} {G G1 G2 : Gh} {σ σ1 : L2.St} {env env1 : En} (x : Fr H G σ env H1 G1 σ1 env1) (y : FrR H1 G1 σ1 env1 H2 G2) : FrR H G σ env H2 G2 where
  hk := fun a o h n => hk_trans (x.hk a o h n) fun o' e => y.hk a o' e fun m => n (x.mm a o h m)
  gk := x.gk.trans y.gk
  gn := fun a o h g n => by
    obtain ⟨o', e, _⟩ := x.hk a o h n
    exact y.gn a o' e (x.gn a o h g n) fun m => n (x.mm a o h m)
/-- nothing that stood has changed -/
theorem Fr.same {H H' : Hp} {G G' : Gh} {σ : L2.St} {env env' : En} (s : Grw H H') (g : Same G G') (gn : ∀ a o, H a = some o → G.g a = none → ¬ Mt G env a → G'.g a = none) (mm : ∀ a o, H a = some o → Mt G' env' a → Mt G env a) (l : ∀ (i : Nat) (s : Sl), s.fix = true → env'[i]? = some s → env[i]? = some s ∧ G'.fp i = G.fp i) :
    Fr H G σ env H' G' σ env' := ⟨fun a o h _ => s a o h, g, gn, mm, fun i m z h => ⟨m, (l i m z h).1, was_refl z, rfl, fun _ _ => (l i m z h).2⟩⟩

/-! ### results -/
inductive Rs where
  | sh (d : D) | ow (l : List D) | tr (o : O)
def Rs.d : Rs → Option D
  | .sh d => some d
  | .ow l => some (.lst l)
  | .tr o => o.d
inductive Q (α : Type) where
  | ok (a : α) (e : En) | ex (x : Ex) (e : En)
abbrev Sm (α : Type) := En → Option (Q α)
def bnd {α β : Type} (m : Sm α) (f : α → Sm β) : Sm β := fun e => match m e with
  | none => none
  | some (.ok a e') => f a e'
  | some (.ex x e') => some (.ex x e')
def ret {α : Type} (a : α) : Sm α := fun e => some (.ok a e)

/-- how a reading's value stands for a result -/
abbrev Rl (α β : Type) := L2.St → (Addr → Prop) → Hp → Gh → En → β → α → Prop
/-- an address that is in no slot -/
def Fre (G : Gh) (env : En) (a : Addr) : Prop := ∀ i s, env[i]? = some s → a ∉ G.fp i
def RV (κ : Kx) : Rl Rs V := fun _ N H G env v r => match r with
  | .sh d => Rp κ G v d
  | .ow l => ∃ a xs, v = .ref a ∧ H a = some (.lst xs) ∧ G.g a = none ∧ RpA κ G xs l ∧ Fre G env a ∧ N a
  | .tr o => ∃ F, RO κ H G v o F ∧ ∀ a, a ∈ F → Fre G env a ∧ N a
def RB (κ : Kx) : Rl D V := fun _ _ H G _ v d => Rp κ G v d ∨ ∃ a xs l, d = .lst l ∧ v = .ref a ∧ H a = some (.lst xs) ∧ RpA κ G xs l
def RT : Rl Bool Bool := fun _ _ _ _ _ b c => b = c
inductive RBs (κ : Kx) (H G : Hp) : List Bool → List V → List D → Prop
  | nil : RBs κ H G [] [] []
  | sh {ms : List Bool} {v : V} {vs : List V} {d : D} {ds : List D} : Rp κ G v d → RBs κ H G ms vs ds → RBs κ H G (false :: ms) (v :: vs) (d :: ds)
  | bo {ms : List Bool} {v : V} {vs : List V} {d : D} {ds : List D} : (Rp κ G v d ∨ ∃ a xs l, d = .lst l ∧ v = .ref a ∧ H a = some (.lst xs) ∧ RpA κ G xs l) → RBs κ H G ms vs ds → RBs κ H G (true :: ms) (v :: vs) (d :: ds)
def RA (κ : Kx) (ms : List Bool) : Rl (List D) (List V) := fun _ _ H G _ vs ds => RBs κ H G ms vs ds

class RlMono {α β : Type} (R : Rl α β) : Prop where
  mono : ∀ {σ : L2.St} {N N' : Addr → Prop} {H : Hp} {G : Gh} {env : En} {b : β} {a : α}, (∀ c, N c → N' c) → R σ N H G env b a → R σ N' H G env b a
instance {κ : Kx} : RlMono (RV κ) := ⟨fun {σ N N' H G env v r} h q => by
  cases r with
  | sh d => exact q
  | ow l =>
    obtain ⟨a, xs, h1, h2, h3, h4, h5, h6⟩ := q
    exact ⟨a, xs, h1, h2, h3, h4, h5, h _ h6⟩
  | tr o =>
    obtain ⟨F, h1, h2⟩ := q
    exact ⟨F, h1, fun a m => ⟨(h2 a m).1, h _ (h2 a m).2⟩⟩⟩
instance {κ : Kx} : RlMono (RB κ) := ⟨fun _ q => q⟩
instance : RlMono RT := ⟨fun _ q => q⟩
instance {κ : Kx} {ms : List Bool} : RlMono (RA κ ms) := ⟨fun _ q => q⟩

/-- fresh, or the def's own -/
def Nw (H : Hp) (G : Gh) (env : En) (a : Addr) : Prop := ∀ o, H a = some o → Mt G env a
section
variable {α β : Type}
/-- .. that may change what is the def's own -/
def EPostI (κ : Kx) (W : WX) (R : Rl α β) (σ : L2.St) (H : Hp) (G : Gh) (env : En) (o : Option (Q α)) (P : β → Hp → Prop) : Prop := match o with
  | none => False
  | some (.ok a env') => ∀ v H' G', Rep κ H' G' σ env' → R σ (Nw H G env) H' G' env' v a → Fr H G σ env H' G' σ env' → P v H'
  | some (.ex x env') => ∀ c d H' G', Rep κ H' G' σ env' → XR κ G' x c d → Fr H G σ env H' G' σ env' → W c d σ H'
def EPost (κ : Kx) (W : WX) (R : Rl α β) (σ : L2.St) (H : Hp) (G : Gh) (env : En) (o : Option (Q α)) (P : β → Hp → Prop) : Prop := match o with
  | none => False
  | some (.ok a env') => ∀ v H' G', Rep κ H' G' σ env' → R σ (Nw H G env) H' G' env' v a → Grw H H' → Fr H G σ env H' G' σ env' → P v H'
  | some (.ex x env') => ∀ c d H' G', Rep κ H' G' σ env' → XR κ G' x c d → Grw H H' → Fr H G σ env H' G' σ env' → W c d σ H'
/-- the reading of a plain function -/
def tX (κ : Kx) (W : WX) (R : Rl α β) (m : Sm α) : L2.St → Hp → (β → Hp → Prop) → Prop := fun σ H P => ∃ G env, Rep κ H G σ env ∧ EPost κ W R σ H G env (m env) P
def tI (κ : Kx) (W : WX) (R : Rl α β) (m : Sm α) : L2.St → Hp → (β → Hp → Prop) → Prop := fun σ H P => ∃ G env, Rep κ H G σ env ∧ EPostI κ W R σ H G env (m env) P
variable {κ : Kx} {W : WX} {R : Rl α β} {σ : L2.St} {H H1 : Hp} {G G1 : Gh} {env env1 : En}
theorem EPostI.pu {o : Option (Q α)} {P : β → Hp → Prop} (h : EPostI κ W R σ H G env o P) : EPost κ W R σ H G env o P := by
  cases o with
  | none => exact h
  | some q => cases q with
    | ok a e => exact fun v H' G' a b _ d => h v H' G' a b d
    | ex x e => exact fun c d H' G' a b _ f => h c d H' G' a b f
theorem tI.pu {m : Sm α} {P : β → Hp → Prop} (h : tI κ W R m σ H P) : tX κ W R m σ H P := by
  obtain ⟨G, env, r, q⟩ := h
  exact ⟨G, env, r, q.pu⟩
theorem EPost.mono {o : Option (Q α)} {P P' : β → Hp → Prop} (h : EPost κ W R σ H G env o P) (k : ∀ v H', P v H' → P' v H') : EPost κ W R σ H G env o P' := by
  cases o with
  | none => exact h
  | some q => cases q with
    | ok a e => exact fun v H' G' a b c d => k _ _ (h v H' G' a b c d)
    | ex x e => exact h
theorem EPostI.mono {o : Option (Q α)} {P P' : β → Hp → Prop} (h : EPostI κ W R σ H G env o P) (k : ∀ v H', P v H' → P' v H') : EPostI κ W R σ H G env o P' := by
  cases o with
  | none => exact h
  | some q => cases q with
    | ok a e => exact fun v H' G' a b c => k _ _ (h v H' G' a b c)
    | ex x e => exact h
theorem tX.mono {m : Sm α} {P P' : β → Hp → Prop} (h : tX κ W R m σ H P) (k : ∀ v H', P v H' → P' v H') : tX κ W R m σ H P' := by
  obtain ⟨G, env, r, q⟩ := h
  exact ⟨G, env, r, q.mono k⟩
theorem EPost.shift [RlMono R] {o : Option (Q α)} {P : β → Hp → Prop} (s : Grw H H1) (f : Fr H G σ env H1 G1 σ env1) (h : EPost κ W R σ H G env o P) : EPost κ W R σ H1 G1 env1 o P := by
  cases o with
  | none => exact h
  | some q => cases q with
    | ok a e => exact fun v H' G' r1 r2 s2 f2 => h v H' G' r1 (RlMono.mono (fun c n o e => by obtain ⟨o', e', _⟩ := s c o e; exact f.mm c o e (n o' e')) r2) (s.trans s2) (f.trans f2)
    | ex x e => exact fun c d H' G' r1 r2 s2 f2 => h c d H' G' r1 r2 (s.trans s2) (f.trans f2)
theorem Nw.shift {σ1 : L2.St} (f : Fr H G σ env H1 G1 σ1 env1) {c : Addr} (n : Nw H1 G1 env1 c) : Nw H G env c := fun o e => by
  by_cases m : Mt G env c
  · exact m
  · obtain ⟨o', e', _⟩ := f.hk c o e m
    exact f.mm c o e (n o' e')
theorem EPostI.shift [RlMono R] {o : Option (Q α)} {P : β → Hp → Prop} (f : Fr H G σ env H1 G1 σ env1) (h : EPostI κ W R σ H G env o P) : EPostI κ W R σ H1 G1 env1 o P := by
  cases o with
  | none => exact h
  | some q => cases q with
    | ok a e => exact fun v H' G' r1 r2 f2 => h v H' G' r1 (RlMono.mono (fun c n => n.shift f) r2) (f.trans f2)
    | ex x e => exact fun c d H' G' r1 r2 f2 => h c d H' G' r1 r2 (f.trans f2)
end
/-- two in a row -/
theorem bind_post {α β γ δ : Type} {κ : Kx} {W : WX} {R : Rl α β} {R2 : Rl γ δ} [RlMono R2] {σ : L2.St} {H : Hp} {G : Gh} {env : En} {m : Sm α} {f : α → Sm γ} {P : δ → Hp → Prop} (r : Rep κ H G σ env) (h : EPost κ W R2 σ H G env (bnd m f env) P)
    {P' : β → Hp → Prop} (k : ∀ a env1 v H1 G1, m env = some (.ok a env1) → Rep κ H1 G1 σ env1 → R σ (Nw H G env) H1 G1 env1 v a → Grw H H1 → Fr H G σ env H1 G1 σ env1 → EPost κ W R2 σ H1 G1 env1 (f a env1) P → P' v H1) :
    tX κ W R m σ H P' := by
  refine ⟨G, env, r, ?_⟩
  unfold bnd at h
  cases e : m env with
  | none => rw [e] at h; exact h
  | some q => cases q with
    | ok a e1 =>
      rw [e] at h
      exact fun v H1 G1 r1 r2 s2 f2 => k a e1 v H1 G1 e r1 r2 s2 f2 (EPost.shift s2 f2 h)
    | ex x e1 =>
      rw [e] at h
      exact h
/-! ### statements -/
inductive SO where
  | nx (e : En) | bk (e : En) | ct (e : En) | rt (r : Rs) | rv (r : Rs) (e : En) | ex (x : Ex) (e : En)
abbrev Ss := En → Option SO
/-- a def hands back -/
def RR (κ : Kx) (N : Addr → Prop) (H : Hp) (G : Hp) (v : V) : Rs → Prop
  | .sh d => Rp κ G v d
  | .ow l => ∃ a xs, v = .ref a ∧ H a = some (.lst xs) ∧ G a = none ∧ RpA κ G xs l ∧ N a
  | .tr o => ∃ F, RO κ H G v o F ∧ ∀ a, a ∈ F → N a
def SPost (κ : Kx) (W : WX) (σ : L2.St) (H : Hp) (G : Gh) (env : En) (o : Option SO) (D : Ends) : Prop := match o with
  | none => False
  | some (.nx env') => ∀ σ' H' G', Rep κ H' G' σ' env' → Fr H G σ env H' G' σ' env' → D.nx σ' H'
  | some (.bk env') => ∀ σ' H' G', Rep κ H' G' σ' env' → Fr H G σ env H' G' σ' env' → D.bk σ' H'
  | some (.ct env') => ∀ σ' H' G', Rep κ H' G' σ' env' → Fr H G σ env H' G' σ' env' → D.ct σ' H'
  | some (.rt r) => ∀ v H' (G' : Gh), Sub κ G'.g H' → RR κ (Nw H G env) H' G' v r → FrR H G σ env H' G' → D.rt v H'
  | some (.rv r env') => ∀ v σ' H' G', Rep κ H' G' σ' env' → RV κ σ' (Nw H G env) H' G' env' v r → Fr H G σ env H' G' σ' env' → D.rt v H'
  | some (.ex x env') => ∀ c d σ' H' G', Rep κ H' G' σ' env' → XR κ G' x c d → Fr H G σ env H' G' σ' env' → W c d σ' H'
def tS (κ : Kx) (W : WX) (m : Ss) : TS := fun D σ H => ∃ G env, Rep κ H G σ env ∧ SPost κ W σ H G env (m env) D
section
variable {κ : Kx} {W : WX} {σ σ1 : L2.St} {H H1 : Hp} {G G1 : Gh} {env env1 : En} {D D' : Ends}
theorem RR.mono {G : Hp} {N N' : Addr → Prop} {v : V} {r : Rs} (h : ∀ c, N c → N' c) (q : RR κ N H G v r) : RR κ N' H G v r := by
  cases r with
  | sh d => exact q
  | ow l =>
    obtain ⟨a, xs, h1, h2, h3, h4, h5⟩ := q
    exact ⟨a, xs, h1, h2, h3, h4, h _ h5⟩
  | tr o =>
    obtain ⟨F, h1, h2⟩ := q
    exact ⟨F, h1, fun a m => h _ (h2 a m)⟩
theorem SPost.mono {o : Option SO} (h : SPost κ W σ H G env o D) (k1 : ∀ s h, D.nx s h → D'.nx s h) (k2 : ∀ s h, D.bk s h → D'.bk s h) (k3 : ∀ s h, D.ct s h → D'.ct s h) (k4 : ∀ s h, D.rt s h → D'.rt s h) : SPost κ W σ H G env o D' := by
  cases o with
  | none => exact h
  | some q => cases q with
    | nx e => exact fun σ' H' G' a b => k1 _ _ (h σ' H' G' a b)
    | bk e => exact fun σ' H' G' a b => k2 _ _ (h σ' H' G' a b)
    | ct e => exact fun σ' H' G' a b => k3 _ _ (h σ' H' G' a b)
    | rt r => exact fun v H' G' a b c => k4 _ _ (h v H' G' a b c)
    | rv r e => exact fun v σ' H' G' a b c => k4 _ _ (h v σ' H' G' a b c)
    | ex x e => exact h
theorem SPost.shift {o : Option SO} (f : Fr H G σ env H1 G1 σ1 env1) (h : SPost κ W σ H G env o D) : SPost κ W σ1 H1 G1 env1 o D := by
  cases o with
  | none => exact h
  | some q => cases q with
    | nx e => exact fun σ' H' G' a b => h σ' H' G' a (f.trans b)
    | bk e => exact fun σ' H' G' a b => h σ' H' G' a (f.trans b)
    | ct e => exact fun σ' H' G' a b => h σ' H' G' a (f.trans b)
    | rt r => exact fun v H' G' a b c => h v H' G' a (b.mono fun _ n => n.shift f) (f.toR c)
    | rv r e => exact fun v σ' H' G' a b c => h v σ' H' G' a (RlMono.mono (fun _ n => n.shift f) b) (f.trans c)
    | ex x e => exact fun c d σ' H' G' a b g => h c d σ' H' G' a b (f.trans g)
end
/-- an expression in a statement -/
def sbnd {α : Type} (m : Sm α) (f : α → Ss) : Ss := fun e => match m e with
  | none => none
  | some (.ok a e') => f a e'
  | some (.ex x e') => some (.ex x e')
theorem sbind_post {α β : Type} {κ : Kx} {W : WX} {R : Rl α β} {σ : L2.St} {H : Hp} {G : Gh} {env : En} {m : Sm α} {f : α → Ss} {D : Ends} (r : Rep κ H G σ env) (h : SPost κ W σ H G env (sbnd m f env) D)
    {P' : β → Hp → Prop} (k : ∀ a env1 v H1 G1, m env = some (.ok a env1) → Rep κ H1 G1 σ env1 → R σ (Nw H G env) H1 G1 env1 v a → Fr H G σ env H1 G1 σ env1 → SPost κ W σ H1 G1 env1 (f a env1) D → P' v H1) :
    tI κ W R m σ H P' := by
  refine ⟨G, env, r, ?_⟩
  unfold sbnd at h
  cases e : m env with
  | none => rw [e] at h; exact h
  | some q => cases q with
    | ok a e1 =>
      rw [e] at h
      exact fun v H1 G1 r1 r2 f2 => k a e1 v H1 G1 e r1 r2 f2 (SPost.shift f2 h)
    | ex x e1 =>
      rw [e] at h
      exact fun c d H' G' a b g => h c d σ H' G' a b g
/-! ### heaps and slots -/
section
variable {κ : Kx} {W : WX} {σ : L2.St} {H H' : Hp} {G G' : Gh} {env : En} {p : Addr} {xs : List V} {l : List D}
theorem Rep.grow (r : Rep κ H G σ env) (h : Grw H H') (g : Same G G') (s : Sub κ G'.g H') (f : ∀ i, G'.fp i = G.fp i) (o : ∀ i a, Own G env i a → G'.g a = none) : Rep κ H' G' σ env where
  sub := s
  len := r.len
  slot := fun i s e => by
    have q := r.slot i s e
    rw [f i]
    have th : ∀ {o : O}, s.th = some o → RSl κ H' G' σ[i]? (G.fp i) s := fun {o'} z => by
      obtain ⟨x, e1, e2⟩ := q.th z
      exact .of z e1 (e2.grow g (fun a o m e => h.at e (e2.pl m e).1) fun a m => o i a ⟨s, o', e, z, m⟩)
    cases s with
    | un => exact q
    | sh d =>
      obtain ⟨h0, x, h1, h2⟩ := q
      exact ⟨h0, x, h1, h2.mono g⟩
    | ow l => exact th rfl
    | lk l => exact th rfl
    | io o => exact th rfl
    | tr o => exact th rfl
    | bo l =>
      obtain ⟨a, xs, h1, h2, h4, h5⟩ := q
      exact ⟨a, xs, h1, h.at h2, h4.mono g, h5⟩
  inj := fun i j a t ⟨s, o, e1, e2, m⟩ e3 m3 => by
    rw [f i] at m
    rw [f j] at m3
    exact r.inj i j a t ⟨s, o, e1, e2, m⟩ e3 m3
theorem Rep.own (r : Rep κ H G σ env) {i : Nat} {a : Addr} (o : Own G env i a) : (∃ u, H a = some u) ∧ G.g a = none := by
  obtain ⟨s, o, e, t, m⟩ := o
  obtain ⟨x, e1, e2⟩ := (r.slot i s e).th t
  exact e2.own m
theorem Rep.live (r : Rep κ H G σ env) {i : Nat} {s : Sl} {a : Addr} (e : env[i]? = some s) (m : a ∈ G.fp i) : ∃ u, H a = some u := by
  have q := r.slot i s e
  have th : ∀ {o : O}, s.th = some o → ∃ u, H a = some u := fun {o} t => (r.own ⟨s, o, e, t, m⟩).1
  cases s with
  | un => rw [show G.fp i = [] from q] at m; cases m
  | sh d => rw [q.1] at m; cases m
  | ow l => exact th rfl
  | lk l => exact th rfl
  | io o => exact th rfl
  | tr o => exact th rfl
  | bo l =>
    obtain ⟨b, xs, h1, h2, h4, h5⟩ := q
    rw [h5] at m
    rw [List.mem_singleton.mp m]
    exact ⟨_, h2⟩
theorem Rep.pl (r : Rep κ H G σ env) {i : Nat} {s : Sl} {a : Addr} {o : HO} (e : env[i]? = some s) (m : a ∈ G.fp i) (h : H a = some o) : pln o := by
  have q := r.slot i s e
  have th : ∀ {o' : O}, s.th = some o' → pln o := fun {o'} t => by
    obtain ⟨x, _, e2⟩ := q.th t
    exact e2.pl m h
  cases s with
  | un => rw [show G.fp i = [] from q] at m; cases m
  | sh d => rw [q.1] at m; cases m
  | ow l => exact th rfl
  | lk l => exact th rfl
  | io o => exact th rfl
  | tr o => exact th rfl
  | bo l =>
    obtain ⟨b, xs, h1, h2, h4, h5⟩ := q
    rw [h5] at m
    rw [List.mem_singleton.mp m, h2] at h
    cases h
    exact ⟨(fun _ z => nomatch z), (fun _ z => nomatch z)⟩
theorem Rep.fre (r : Rep κ H G σ env) (hp : H p = none) : Fre G env p := fun i s e m => by
  obtain ⟨u, h⟩ := r.live e m
  rw [hp] at h
  cases h
theorem same_new {H : Hp} {p : Addr} {o : HO} (h : H p = none) : Same H (upd H p o) := fun a u e => by
  rw [upd_ne (ne_of_none e h)]
  exact e
theorem same_upd {G H : Hp} {p : Addr} {o : HO} (s : Same G H) (h : G p = none) : Same G (upd H p o) := fun a u e => by
  rw [upd_ne (ne_of_none e h)]
  exact s a u e
theorem same_both {G H : Hp} {p : Addr} {o : HO} (s : Same G H) : Same (upd G p o) (upd H p o) := fun a u e => by
  by_cases h : a = p
  · subst h; rw [upd_same] at e ⊢; exact e
  · rw [upd_ne h] at e ⊢; exact s a u e
theorem Same.none {G H : Hp} {p : Addr} (s : Same G H) (h : H p = none) : G p = none := by
  cases q : G p with
  | none => rfl
  | some o => rw [s p o q] at h; cases h
theorem Sub.new {κ : Kx} {G H : Hp} {p : Addr} {o : HO} (s : Sub κ G H) (h : H p = none) : Sub κ G (upd H p o) := s.kept (same_new h)
theorem Sub.both {κ : Kx} {G H : Hp} {p : Addr} {o : HO} (s : Sub κ G H) (h : H p = none) (n : nt o) : Sub κ (upd G p o) (upd H p o) := ⟨same_both s.s, fun a u e => by
  by_cases z : a = p
  · rw [z, upd_same] at e
    cases e
    exact n
  · rw [upd_ne z] at e
    exact s.n a u e, tabs_of s.t fun a u e _ => same_new h a u e⟩
theorem Sub.none {κ : Kx} {G H : Hp} {p : Addr} (s : Sub κ G H) (h : H p = none) : G p = none := Same.none s.s h
/-- what stands at the end of a reading's last step -/
structure Stp (κ : Kx) (σ : L2.St) (env : En) (H : Hp) (G : Gh) (H' : Hp) (G' : Gh) : Prop where
  rep : Rep κ H' G' σ env
  same : Grw H H'
  fr : Fr H G σ env H' G' σ env
theorem Stp.refl (r : Rep κ H G σ env) : Stp κ σ env H G H G := ⟨r, Grw.refl _, Fr.refl⟩
theorem fr_upd {o : HO} (hp : H p = none) : Fr H G σ env (upd H p o) G σ env := Fr.same (gr (same_new hp)) (Same.refl _) (fun _ _ _ h _ => h) (fun _ _ _ h => h) fun _ _ _ h => ⟨h, rfl⟩
/-- a new list of the def's own -/
theorem new_ow (r : Rep κ H G σ env) (hp : H p = none) (h : RpA κ G xs l) : Stp κ σ env H G (upd H p (.lst xs)) G ∧ RV κ σ (Nw H G env) (upd H p (.lst xs)) G env (.ref p) (.ow l) := by
  have gp := r.sub.none hp
  refine ⟨⟨r.grow (gr (same_new hp)) (Same.refl _) (r.sub.new hp) (fun _ => rfl) fun i a o => (r.own o).2, gr (same_new hp), fr_upd hp⟩, p, xs, rfl, upd_same, gp, h, r.fre hp, fun o e => ?_⟩
  rw [hp] at e
  cases e
/-- a new thing that all may hold -/
theorem new_sh {o : HO} (r : Rep κ H G σ env) (hp : H p = none) (hn : nt o := by first | assumption | exact fun _ z => nomatch z) : Stp κ σ env H G (upd H p o) (G.up p o) := by
  have gp := r.sub.none hp
  refine ⟨r.grow (gr (same_new hp)) (same_new gp) (r.sub.both hp hn) (fun _ => rfl) fun i a q => ?_, gr (same_new hp), Fr.same (gr (same_new hp)) (same_new gp) (fun a u h g _ => ?_) (fun _ _ _ h => h) fun _ _ _ h => ⟨h, rfl⟩⟩
  · obtain ⟨⟨u, h⟩, g⟩ := r.own q
    show upd G.g p o a = none
    rw [upd_ne (ne_of_none h hp)]
    exact g
  · show upd G.g p o a = none
    rw [upd_ne (ne_of_none h hp)]
    exact g
/-- own addresses that no slot holds, given away -/
theorem freeze {H0 : Hp} {G0 : Gh} {σ0 : L2.St} {env0 : En} {F : List Addr} (r : Rep κ H G σ env) (hg : ∀ a, a ∈ F → G.g a = none) (f : ∀ a, a ∈ F → Fre G env a) (n : ∀ a, a ∈ F → ∀ o, H0 a = some o → Mt G0 env0 a) (fr : Fr H0 G0 σ0 env0 H G σ env) (hn : ∀ a o, a ∈ F → H a = some o → pln o) :
    Rep κ H ⟨frzG H G F, G.fp⟩ σ env ∧ Fr H0 G0 σ0 env0 H ⟨frzG H G F, G.fp⟩ σ env := by
  have sg : Same G.g (frzG H G F) := same_frz hg
  refine ⟨r.grow (G' := ⟨frzG H G F, G.fp⟩) (Grw.refl _) sg (frz_sub r.sub fun a o m e => (hn a o m e).1) (fun _ => rfl) fun i b o => ?_, fr.hk, fr.gk.trans sg, fun b o e g m => ?_, fr.mm, fr.lk⟩
  · obtain ⟨s, o', e, t, m⟩ := id o
    show frzG H G F b = none
    rw [frz_out fun q => f b q i s e m]
    exact (r.own o).2
  · show frzG H G F b = none
    rw [frz_out fun q => m (n b q o e)]
    exact fr.gn b o e g m
end
/-- .. as a value that all may hold -/
def RP (κ : Kx) : Rl D V := fun _ _ _ G _ v d => Rp κ G v d
instance {κ : Kx} : RlMono (RP κ) := ⟨fun _ q => q⟩
def frz (m : Sm Rs) : Sm D := fun e => match m e with
  | none => none
  | some (.ok r e') => match r.d with
    | some d => some (.ok d e')
    | none => none
  | some (.ex x e') => some (.ex x e')
section
variable {X : Cx} {κ : Kx} {W : WX} {e : Expr}
theorem PE.imp {t t' : TE} (h : PE X e t) (k : ∀ σ H Q, t' σ H Q → t σ H Q) : PE X e t' := ⟨fun pins s σ H Q I q => h.run pins s σ H Q I (k σ H Q q)⟩
theorem PT.imp {t t' : TT} (h : PT X e t) (k : ∀ σ H Q, t' σ H Q → t σ H Q) : PT X e t' := ⟨fun pins s σ H Q I q => h.run pins s σ H Q I (k σ H Q q)⟩
theorem PW.imp {t t' : TT} (h : PW X e t) (k : ∀ σ H Q, t' σ H Q → t σ H Q) : PW X e t' := ⟨fun wh pins s σ H Q I q => h.run wh pins s σ H Q I (k σ H Q q)⟩
theorem PA.imp {es : List Expr} {t t' : TA} (h : PA X es t) (k : ∀ σ H Q, t' σ H Q → t σ H Q) : PA X es t' := ⟨fun pos pins s σ H Q I q => h.run pos pins s σ H Q I (k σ H Q q)⟩
theorem PS.imp {st : Stmt} {t t' : TS} (h : PS X st t) (k : ∀ D σ H, t' D σ H → t D σ H) : PS X st t' := ⟨fun pins s σ H D I q => h.run pins s σ H D I (k D σ H q)⟩
theorem PSs.imp {st : List Stmt} {t t' : TS} (h : PSs X st t) (k : ∀ D σ H, t' D σ H → t D σ H) : PSs X st t' := ⟨fun pins s σ H D I q => h.run pins s σ H D I (k D σ H q)⟩
/-- a reading that changes nothing, as one that may -/
theorem im {α : Type} {R : Rl α V} {m : Sm α} (h : PE X e (tX κ W R m)) : PE X e (tI κ W R m) := PE.imp h fun _ _ _ q => q.pu
theorem im_t {m : Sm Bool} (h : PT X e (tX κ W RT m)) : PT X e (tI κ W RT m) := PT.imp h fun _ _ _ q => q.pu
theorem frz_rv {H : Hp} {G : Gh} {σ : L2.St} {env : En} {H0 : Hp} {G0 : Gh} {σ0 : L2.St} {env0 : En} {v : V} {r : Rs} {d : D} (rp : Rep κ H G σ env) (rv : RV κ σ (Nw H0 G0 env0) H G env v r) (e : r.d = some d) (fr : Fr H0 G0 σ0 env0 H G σ env) :
    ∃ G', Rep κ H G' σ env ∧ Rp κ G' v d ∧ Fr H0 G0 σ0 env0 H G' σ env := by
  cases r with
  | sh d' => cases e; exact ⟨G, rp, rv, fr⟩
  | ow l =>
    cases e
    obtain ⟨a, xs, rfl, h2, h3, h4, h5, h6⟩ := rv
    have ro : RO κ H G (.ref a) (.ls l) [a] := .ls h2 h3 h4
    obtain ⟨g1, g2⟩ := freeze (F := [a]) rp (fun b m => by rw [List.mem_singleton.mp m]; exact h3) (fun b m => by rw [List.mem_singleton.mp m]; exact h5) (fun b m => by rw [List.mem_singleton.mp m]; exact h6) fr fun a o m e => ro.pl m e
    exact ⟨_, g1, ro.frz rfl, g2⟩
  | tr o =>
    obtain ⟨F, ro, h⟩ := rv
    obtain ⟨g1, g2⟩ := freeze (F := F) rp (fun b m => (ro.own m).2) (fun b m => (h b m).1) (fun b m => (h b m).2) fr fun a o m e => ro.pl m e
    exact ⟨_, g1, ro.frz e, g2⟩
/-- a value, given away -/
theorem v_frz {m : Sm Rs} (h : PE X e (tX κ W (RV κ) m)) : PE X e (tX κ W (RP κ) (frz m)) := PE.imp h fun σ H Q ⟨G, env, r, q⟩ => by
  refine ⟨G, env, r, ?_⟩
  unfold frz at q
  cases z : m env with
  | none => rw [z] at q; exact q
  | some y => cases y with
    | ex x e1 => rw [z] at q; exact q
    | ok a e1 =>
      rw [z] at q
      intro v H1 G1 r1 rv s1 f1
      cases w : a.d with
      | none => dsimp only at q; rw [w] at q; exact q.elim
      | some d =>
        dsimp only at q
        rw [w] at q
        obtain ⟨G2, r2, rp, f2⟩ := frz_rv r1 rv w f1
        exact q _ H1 _ r2 rp s1 f2
theorem v_bo {m : Sm D} (h : PE X e (tX κ W (RP κ) m)) : PE X e (tX κ W (RB κ) m) := PE.imp h fun σ H Q ⟨G, env, r, q⟩ => by
  refine ⟨G, env, r, ?_⟩
  cases z : m env with
  | none => rw [z] at q; exact q
  | some y => cases y with
    | ex x e1 => rw [z] at q; exact q
    | ok a e1 =>
      rw [z] at q
      exact fun v H1 G1 r1 r2 s1 f1 => q v H1 G1 r1 (.inl r2) s1 f1
def shm (m : Sm D) : Sm Rs := fun e => match m e with
  | none => none
  | some (.ok d e') => some (.ok (.sh d) e')
  | some (.ex x e') => some (.ex x e')
theorem v_sh {m : Sm D} (h : PE X e (tX κ W (RP κ) m)) : PE X e (tX κ W (RV κ) (shm m)) := PE.imp h fun σ H Q ⟨G, env, r, q⟩ => by
  refine ⟨G, env, r, ?_⟩
  unfold shm at q
  cases z : m env with
  | none => rw [z] at q; exact q
  | some y => cases y with
    | ex x e1 => rw [z] at q; exact q
    | ok a e1 => rw [z] at q; exact q
theorem i_sh {m : Sm D} (h : PE X e (tI κ W (RP κ) m)) : PE X e (tI κ W (RV κ) (shm m)) := PE.imp h fun σ H Q ⟨G, env, r, q⟩ => by
  refine ⟨G, env, r, ?_⟩
  unfold shm at q
  cases z : m env with
  | none => rw [z] at q; exact q
  | some y => cases y with
    | ex x e1 => rw [z] at q; exact q
    | ok a e1 => rw [z] at q; exact q
/-! ### names and constants -/
/-- a name that is only looked at -/
def eB (i : Nat) : Sm D := fun env => match env[i]? with
  | some (.sh d) => some (.ok d env)
  | some (.ow l) => some (.ok (.lst l) env)
  | some (.lk l) => some (.ok (.lst l) env)
  | some (.bo l) => some (.ok (.lst l) env)
  | some (.io (.ls l)) => some (.ok (.lst l) env)
  | _ => none
/-- a name whose value is given away -/
def eV (i : Nat) : Sm D := fun env => match env[i]? with
  | some (.sh d) => some (.ok d env)
  | some (.ow l) => some (.ok (.lst l) (env.set i (.sh (.lst l))))
  | some (.tr o) => match o.d with
    | some d => some (.ok d (env.set i (.sh d)))
    | none => none
  | _ => none
def eC (d : D) : Sm D := fun env => some (.ok d env)
theorem b_var {i : Nat} {x : Str} {pos : Pos} (h : PE X (.Name x pos) (tVar i)) : PE X (.Name x pos) (tX κ W (RB κ) (eB i)) := PE.imp h fun σ H Q ⟨G, env, r, q⟩ => by
  unfold eB at q
  cases z : env[i]? with
  | none => rw [z] at q; exact q.elim
  | some s =>
    have rs := r.slot i s z
    rw [z] at q
    have ls : ∀ {l : List D}, s.th = some (.ls l) → EPost κ W (RB κ) σ H G env (some (.ok (.lst l) env)) Q → tVar i σ H Q := fun {l} t q => by
      obtain ⟨x, e1, e2⟩ := rs.th t
      obtain ⟨a, xs, rfl, _, h1, h2, h3⟩ := e2.ls_inv
      exact ⟨_, e1, q _ H G r (.inr ⟨_, _, l, rfl, rfl, h1, h3⟩) (Grw.refl _) Fr.refl⟩
    cases s with
    | un => exact q.elim
    | sh d =>
      obtain ⟨_, v, h1, h2⟩ := rs
      exact ⟨v, h1, q v H G r (.inl h2) (Grw.refl _) Fr.refl⟩
    | ow l => exact ls rfl q
    | lk l => exact ls rfl q
    | bo l =>
      obtain ⟨a, xs, h1, h2, h4, _⟩ := rs
      exact ⟨_, h1, q _ H G r (.inr ⟨a, xs, l, rfl, rfl, h2, h4⟩) (Grw.refl _) Fr.refl⟩
    | io o =>
      cases o with
      | ls l => exact ls rfl q
      | _ => exact q.elim
    | tr o => exact q.elim
end
section
variable {κ : Kx} {σ : L2.St} {H : Hp} {G : Gh} {env : En}
theorem set_look {env : En} {i j : Nat} {s t : Sl} (h : (env.set i s)[j]? = some t) : (j = i ∧ t = s) ∨ (i ≠ j ∧ env[j]? = some t) := by
  by_cases w : i = j
  · subst w
    by_cases hl : i < env.length
    · rw [List.getElem?_set_self hl] at h
      exact .inl ⟨rfl, (Option.some.inj h).symm⟩
    · rw [List.getElem?_eq_none (by simpa using hl)] at h
      cases h
  · rw [List.getElem?_set_ne w] at h
    exact .inr ⟨w, h⟩
theorem put_at {G : Gh} {i : Nat} {F : List Addr} : (G.put i F).fp i = F := by unfold Gh.put; exact if_pos rfl
theorem put_ne {G : Gh} {i j : Nat} {F : List Addr} (h : i ≠ j) : (G.put i F).fp j = G.fp j := by unfold Gh.put; exact if_neg fun z => h z.symm
/-- slot i told otherwise: its new thing, where nothing else lies -/
theorem Rep.re (r : Rep κ H G σ env) {i : Nat} {s : Sl} {F : List Addr} {H' g' : Hp} {x : Option V} (hi : i < env.length) (sub : Sub κ g' H') (gk : Same G.g g')
    (hs : RSl κ H' g' (some x) F s)
    (ks : ∀ j t a, i ≠ j → env[j]? = some t → a ∈ G.fp j → ∀ o, H a = some o → H' a = some o)
    (kn : ∀ j a, i ≠ j → Own G env j a → g' a = none)
    (new : ∀ a, a ∈ F → ∀ j t, i ≠ j → env[j]? = some t → a ∉ G.fp j) :
    Rep κ H' (Gh.mk g' (G.put i F).fp) (σ.set i x) (env.set i s) := by
  have hσ : i < σ.length := by rw [r.len]; exact hi
  refine ⟨sub, by rw [List.length_set, List.length_set]; exact r.len, fun j t e => ?_, fun j k a t o e m => ?_⟩
  · rcases set_look e with ⟨rfl, rfl⟩ | ⟨w, e1⟩
    · rw [List.getElem?_set_self hσ]
      show RSl κ H' g' _ ((G.put j F).fp j) t
      rw [put_at]
      exact hs
    · rw [List.getElem?_set_ne w]
      show RSl κ H' g' _ ((G.put i F).fp j) t
      rw [put_ne w]
      have q := r.slot j t e1
      have th : ∀ {o : O}, t.th = some o → RSl κ H' g' σ[j]? (G.fp j) t := fun {o'} z => by
        obtain ⟨x, e3, e4⟩ := q.th z
        exact .of z e3 (e4.grow gk (fun a o m e5 => ks j t a w e1 m o e5) fun a m => kn j a w ⟨t, o', e1, z, m⟩)
      cases t with
      | un => exact q
      | sh d =>
        obtain ⟨h0, x, h1, h2⟩ := q
        exact ⟨h0, x, h1, h2.mono gk⟩
      | ow l => exact th rfl
      | lk l => exact th rfl
      | io o => exact th rfl
      | tr o => exact th rfl
      | bo l =>
        obtain ⟨a, xs, h1, h2, h4, h5⟩ := q
        exact ⟨a, xs, h1, ks j (.bo l) a w e1 (by rw [h5]; exact List.mem_singleton_self a) _ h2, h4.mono gk, h5⟩
  · obtain ⟨s', o', e', t', m'⟩ := o
    have m1 : a ∈ (G.put i F).fp j := m'
    have m2 : a ∈ (G.put i F).fp k := m
    clear m m'
    rcases set_look e' with ⟨rfl, rfl⟩ | ⟨w1, e1⟩
    · rw [put_at] at m1
      rcases set_look e with ⟨rfl, rfl⟩ | ⟨w2, e2⟩
      · rfl
      · rw [put_ne w2] at m2
        exact absurd m2 (new a m1 k t w2 e2)
    · rw [put_ne w1] at m1
      rcases set_look e with ⟨rfl, rfl⟩ | ⟨w2, e2⟩
      · rw [put_at] at m2
        exact absurd m1 (new a m2 j s' w1 e1)
      · rw [put_ne w2] at m2
        exact r.inj j k a t ⟨s', o', e1, t', m1⟩ e2 m2
/-- .. what the frame says of it -/
theorem Fr.re {i : Nat} {s s0 : Sl} {F : List Addr} {H' g' : Hp} {x : Option V} (e0 : env[i]? = some s0)
    (hk : ∀ a o, H a = some o → ¬ Mt G env a → ∃ o', H' a = some o' ∧ (nt o → o' = o)) (gk : Same G.g g') (gn : ∀ a o, H a = some o → G.g a = none → ¬ Mt G env a → g' a = none)
    (mm : s.mut = true → ∀ a o, a ∈ F → H a = some o → Mt G env a) (fx : s.fix = true → s.was s0 ∧ x = (σ[i]?).getD none ∧ i < σ.length ∧ s.mut = true) :
    Fr H G σ env H' (Gh.mk g' (G.put i F).fp) (σ.set i x) (env.set i s) where
  hk := hk
  gk := gk
  gn := gn
  mm := fun a o e m => by
    obtain ⟨j, t, e1, h, m⟩ := m
    have m : a ∈ (G.put i F).fp j := m
    rcases set_look e1 with ⟨rfl, rfl⟩ | ⟨w, e2⟩
    · rw [put_at] at m
      exact mm h a o m e
    · rw [put_ne w] at m
      exact ⟨j, t, e2, h, m⟩
  lk := fun j t f e => by
    rcases set_look e with ⟨rfl, rfl⟩ | ⟨w, e2⟩
    · obtain ⟨h1, h2, h3, h4⟩ := fx f
      refine ⟨s0, e0, h1, ?_, fun _ q => by rw [h4] at q; cases q⟩
      rw [List.getElem?_set_self h3, h2, List.getElem?_eq_getElem h3]
      rfl
    · exact ⟨t, e2, was_refl f, List.getElem?_set_ne w, fun _ _ => put_ne w⟩
theorem set_same {σ : L2.St} {i : Nat} {x : Option V} (h : σ[i]? = some x) : σ.set i x = σ := by
  refine List.ext_getElem? fun j => ?_
  by_cases w : i = j
  · subst w
    rw [List.getElem?_set_self (List.getElem?_eq_some_iff.mp h).1, h]
  · rw [List.getElem?_set_ne w]
/-- the own thing at slot i, given away -/
theorem Rep.give {i : Nat} {s : Sl} {o : O} {d : D} (r : Rep κ H G σ env) (e : env[i]? = some s) (t : s.th = some o) (hm : s.mut = true) (hd : o.d = some d) : ∃ v G', σ[i]? = some (some v) ∧ Rep κ H G' σ (env.set i (.sh d)) ∧ Rp κ G' v d ∧
    Fr H G σ env H G' σ (env.set i (.sh d)) := by
  obtain ⟨v, h1, ro⟩ := (r.slot i s e).th t
  have hi : i < env.length := (List.getElem?_eq_some_iff.mp e).1
  have sg : Same G.g (frzG H G (G.fp i)) := same_frz fun a m => (ro.own m).2
  have rp := ro.frz hd
  have me : ∀ a, a ∈ G.fp i → Own G env i a := fun a m => ⟨s, o, e, t, m⟩
  have re := r.re (s := .sh d) (F := []) (x := some v) hi (frz_sub r.sub fun a o m e => (ro.pl m e).1) sg ⟨rfl, v, rfl, rp⟩ (fun _ _ _ _ _ _ _ h => h) (fun j a w ow => by
    obtain ⟨t', o', e', z', m'⟩ := id ow
    rw [frz_out fun m => w (r.inj i j a t' (me a m) e' m')]
    exact (r.own ow).2) fun a m => by cases m
  have fr := Fr.re (σ := σ) (H := H) (H' := H) (g' := frzG H G (G.fp i)) (s := .sh d) (F := []) (x := some v) (s0 := s) e (fun _ o h _ => ⟨o, h, fun _ => rfl⟩) sg (fun a o' h g n => by
    rw [frz_out fun m => n ⟨i, s, e, hm, m⟩]
    exact g) (fun q => by cases q) fun q => by cases q
  rw [set_same h1] at re fr
  exact ⟨v, _, h1, re, rp, fr⟩
end
section
variable {X : Cx} {κ : Kx} {W : WX} {e : Expr}
theorem v_var {i : Nat} {x : Str} {pos : Pos} (h : PE X (.Name x pos) (tVar i)) : PE X (.Name x pos) (tX κ W (RP κ) (eV i)) := PE.imp h fun σ H Q ⟨G, env, r, q⟩ => by
  unfold eV at q
  cases z : env[i]? with
  | none => rw [z] at q; exact q.elim
  | some s =>
    have rs := r.slot i s z
    rw [z] at q
    have gv : ∀ {o : O} {d : D}, s.th = some o → s.mut = true → o.d = some d → EPost κ W (RP κ) σ H G env (some (.ok d (env.set i (.sh d)))) Q → tVar i σ H Q := fun {o d} t hm hd q => by
      obtain ⟨v, G', g1, g2, g3, g4⟩ := r.give z t hm hd
      exact ⟨v, g1, q _ H _ g2 g3 (Grw.refl _) g4⟩
    cases s with
    | un => exact q.elim
    | sh d =>
      obtain ⟨_, v, h1, h2⟩ := rs
      exact ⟨v, h1, q v H G r h2 (Grw.refl _) Fr.refl⟩
    | ow l => exact gv rfl rfl rfl q
    | lk l => exact q.elim
    | bo l => exact q.elim
    | io o => exact q.elim
    | tr o =>
      dsimp only at q
      cases w : o.d with
      | none => rw [w] at q; exact q.elim
      | some d => rw [w] at q; exact gv rfl rfl w q
theorem v_const {v : V} {d : D} (h : PE X e (tC v)) (r0 : ∀ G, Rp κ G v d) : PE X e (tX κ W (RP κ) (eC d)) := PE.imp h fun σ H Q ⟨G, env, r, q⟩ => q v H G r (r0 G) (Grw.refl _) Fr.refl
theorem v_int {i : Int} {j : Nat} {pos : Pos} : PE X (.Constant (.int i) j pos) (tX κ W (RP κ) (eC (.int i))) := v_const pe_int fun _ => .int i
theorem v_bl {b : Bool} {j : Nat} {pos : Pos} : PE X (.Constant (.bool b) j pos) (tX κ W (RP κ) (eC (.bl b))) := v_const pe_bl fun _ => .bl b
theorem v_str {x : Str} {j : Nat} {pos : Pos} {w : List Nat} (h : x = S w) : PE X (.Constant (.str x) j pos) (tX κ W (RP κ) (eC (.str w))) := v_const pe_str fun _ => h ▸ .str w
end
/-! ### operators -/
def fOp {γ : Type} (f : D → D → Option γ) (ma mb : Sm D) : Sm γ := bnd ma fun x => bnd mb fun y => fun e => match f x y with
  | some z => some (.ok z e)
  | none => none
def RBq (κ : Kx) (H G : Hp) (v : V) (d : D) : Prop := Rp κ G v d ∨ ∃ a xs l, d = .lst l ∧ v = .ref a ∧ H a = some (.lst xs) ∧ RpA κ G xs l
section
variable {κ : Kx} {H G H' G' : Hp} {v : V} {d : D}
theorem RBq.mono (h : Grw H H') (g : Same G G') (r : RBq κ H G v d) : RBq κ H' G' v d := by
  rcases r with r | ⟨a, xs, l, h1, h2, h3, h4⟩
  · exact .inl (r.mono g)
  · exact .inr ⟨a, xs, l, h1, h2, h.at h3, h4.mono g⟩
theorem RBq.int {i : Int} (r : RBq κ H G v (.int i)) : v = .int i := by
  rcases r with r | ⟨a, xs, l, h1, _⟩
  · cases r; rfl
  · cases h1
theorem RBq.bl {i : Bool} (r : RBq κ H G v (.bl i)) : v = .bl i := by
  rcases r with r | ⟨a, xs, l, h1, _⟩
  · cases r; rfl
  · cases h1
theorem RBq.non (r : RBq κ H G v .non) : v = .non := by
  rcases r with r | ⟨a, xs, l, h1, _⟩
  · cases r; rfl
  · cases h1
theorem RBq.str {w : List Nat} (r : RBq κ H G v (.str w)) : v = .str (S w) := by
  rcases r with r | ⟨a, xs, l, h1, _⟩
  · cases r; rfl
  · cases h1
theorem RBq.lst {l : List D} (s : Same G H) (r : RBq κ H G v (.lst l)) : ∃ a xs, v = .ref a ∧ H a = some (.lst xs) ∧ RpA κ G xs l := by
  rcases r with r | ⟨a, xs, l, h1, h2, h3, h4⟩
  · cases r with
    | lst h t => exact ⟨_, _, rfl, s _ _ h, t⟩
  · cases h1
    exact ⟨a, xs, h2, h3, h4⟩
theorem RBq.tup {l : List D} (s : Same G H) (r : RBq κ H G v (.tup l)) : ∃ a xs, v = .ref a ∧ H a = some (.tup xs) ∧ RpA κ G xs l := by
  rcases r with r | ⟨a, xs, l, h1, h2, h3, h4⟩
  · cases r with
    | tup h t => exact ⟨_, _, rfl, s _ _ h, t⟩
  · cases h1
theorem RBq.scr {l : List Int} (s : Same G H) (r : RBq κ H G v (.scr l)) : ∃ a, v = .ref a ∧ SqL κ.K H a (l.map V.int) := by
  rcases r with r | ⟨a, xs, l, h1, h2, h3, h4⟩
  · cases r with
    | scr h => exact ⟨_, rfl, same_l s h⟩
  · cases h1
theorem RBq.ob {c : Nat} {l : List D} (s : Same G H) (r : RBq κ H G v (.ob c l)) : ∃ a dx fs, v = .ref a ∧ H a = some (.ins (κ.cl c) dx fs) ∧ fs.map Prod.fst = (κ.fl c).take l.length ∧ RpA κ G (fs.map Prod.snd) l := by
  rcases r with r | ⟨a, xs, l, h1, h2, h3, h4⟩
  · cases r with
    | ob h1 h2 t => exact ⟨_, _, _, rfl, s _ _ h1, h2, t⟩
  · cases h1
end
/-- the end: a value that is no list, nothing made -/
theorem post_sh {κ : Kx} {W : WX} {σ : L2.St} {H : Hp} {G : Gh} {env : En} {d : D} {Q : VK} {v : V} (r : Rep κ H G σ env) (h : Rp κ G v d) (q : EPost κ W (RV κ) σ H G env (some (.ok (.sh d) env)) Q) : Q v H := q v H G r h (Grw.refl _) Fr.refl
theorem post_tt {κ : Kx} {W : WX} {σ : L2.St} {H : Hp} {G : Gh} {env : En} {b : Bool} {Q : Bool → Hp → Prop} (r : Rep κ H G σ env) (q : EPost κ W RT σ H G env (some (.ok b env)) Q) : Q b H := q b H G r rfl (Grw.refl _) Fr.refl
theorem post_ow {κ : Kx} {W : WX} {σ : L2.St} {H : Hp} {G : Gh} {env : En} {l : List D} {xs : List V} {Q : VK} {p : Addr} (r : Rep κ H G σ env) (hp : H p = none) (h : RpA κ G xs l) (q : EPost κ W (RV κ) σ H G env (some (.ok (.ow l) env)) Q) : Q (.ref p) (upd H p (.lst xs)) := by
  obtain ⟨s, v⟩ := new_ow r hp h
  exact q _ _ G s.rep v s.same s.fr
theorem post_tup {κ : Kx} {W : WX} {σ : L2.St} {H : Hp} {G : Gh} {env : En} {l : List D} {xs : List V} {Q : VK} {p : Addr} (r : Rep κ H G σ env) (hp : H p = none) (h : RpA κ G xs l) (q : EPost κ W (RV κ) σ H G env (some (.ok (.sh (.tup l)) env)) Q) : Q (.ref p) (upd H p (.tup xs)) := by
  have s := new_sh (o := .tup xs) r hp
  exact q _ _ _ s.rep (.tup upd_same (h.mono (same_new (Same.none r.sub hp)))) s.same s.fr
/-- an operator's reading serves its function -/
def OpV (κ : Kx) (r : R2) (f : D → D → Option Rs) : Prop := ∀ (W : WX) (σ : L2.St) (x y : V) (dx dy : D) (z : Rs) (H : Hp) (G : Gh) (env : En) (Q : VK), f dx dy = some z → Rep κ H G σ env → RBq κ H G x dx → RBq κ H G y dy → EPost κ W (RV κ) σ H G env (some (.ok z env)) Q → r x y H Q
def OpB (κ : Kx) (r : R2) (f : D → D → Option Bool) : Prop := ∀ (x y : V) (dx dy : D) (z : Bool) (H G : Hp) (Q : VK), f dx dy = some z → Same G H → RBq κ H G x dx → RBq κ H G y dy → Q (.bl z) H → r x y H Q
section
variable {X : Cx} {κ : Kx} {W : WX} {a b c : Expr} {ma mb mc : Sm D} {pos : Pos}
theorem op_tr {γ δ : Type} {R' : Rl γ δ} [RlMono R'] {f : D → D → Option γ} {σ : L2.St} {H : Hp} {P : δ → Hp → Prop} {r : R2} {Q : VK}
    (hs : ∀ x y dx dy z H G env, f dx dy = some z → Rep κ H G σ env → RBq κ H G x dx → RBq κ H G y dy → EPost κ W R' σ H G env (some (.ok z env)) P → r x y H Q)
    (h : tX κ W R' (fOp f ma mb) σ H P) : tOp r (tX κ W (RB κ) ma) (tX κ W (RB κ) mb) σ H Q := by
  obtain ⟨G, env, rp, q⟩ := h
  refine bind_post rp q fun dx e1 x H1 G1 _ rp1 rx s1 f1 q1 => ?_
  refine bind_post rp1 q1 fun dy e2 y H2 G2 _ rp2 ry s2 f2 q2 => ?_
  cases z : f dx dy with
  | none => rw [z] at q2; exact q2.elim
  | some w => rw [z] at q2; exact hs x y dx dy w H2 G2 e2 z rp2 (RBq.mono s2 f2.gk rx) ry q2
theorem v_op {op : Operator} {r : R2} {f : D → D → Option Rs} (ho : OpR X (binaryOp op) r) (hs : OpV κ r f) (ha : PE X a (tX κ W (RB κ) ma)) (hb : PE X b (tX κ W (RB κ) mb)) : PE X (.BinOp a op b pos) (tX κ W (RV κ) (fOp f ma mb)) :=
  PE.imp (pe_op ho ha hb) fun σ H Q h => op_tr (fun x y dx dy z H G env e r rx ry q => hs W σ x y dx dy z H G env Q e r rx ry q) h
/-- a comparison as a value -/
def vB (f : D → D → Option Bool) : D → D → Option D := fun x y => match f x y with
  | some b => some (.bl b)
  | none => none
theorem v_cmp {op : CmpOp} {r : R2} {f : D → D → Option Bool} (ho : OpR X (compareOp op) r) (hs : OpB κ r f) (ha : PE X a (tX κ W (RB κ) ma)) (hb : PE X b (tX κ W (RB κ) mb)) (hm : behindInMarks op b = false) : PE X (.Compare a [op] [b] pos) (tX κ W (RP κ) (fOp (vB f) ma mb)) :=
  PE.imp (pe_cmpR ho ha hb hm) fun σ H Q h => op_tr (fun x y dx dy z H G env e r rx ry q => by
    unfold vB at e
    cases w : f dx dy with
    | none => rw [w] at e; cases e
    | some b =>
      rw [w] at e
      cases e
      exact hs x y dx dy b H G Q w r.sub rx ry (q (.bl b) H G r (.bl b) (Grw.refl _) Fr.refl)) h
/-- .. as a test -/
theorem t_cmp {op : CmpOp} {r : R2} {f : D → D → Option Bool} (ho : OpR X (compareOp op) r) (hs : OpB κ r f) (ha : PE X a (tX κ W (RB κ) ma)) (hb : PE X b (tX κ W (RB κ) mb)) (hm : behindInMarks op b = false) : PT X (.Compare a [op] [b] pos) (tX κ W RT (fOp f ma mb)) :=
  PT.imp (pt_cmpR ho ha hb hm) fun σ H Q h => op_tr (Q := fun x H' => ∃ k, x = .bl k ∧ Q k H') (fun x y dx dy z H G env e r rx ry q => hs x y dx dy z H G _ e r.sub rx ry ⟨z, rfl, post_tt r q⟩) h
/-- a < b < c -/
def fCh (f g : D → D → Option Bool) (ma mb mc : Sm D) : Sm Bool := bnd ma fun x => bnd mb fun y => fun e => match f x y with
  | none => none
  | some false => some (.ok false e)
  | some true => bnd mc (fun z => fun e => match g y z with
    | some b => some (.ok b e)
    | none => none) e
end

/-! ### the operators' functions -/
abbrev szl : Nat := 1000000
theorem szl_le {n : Nat} (h : n ≤ szl) : n ≤ sizeLine := Nat.le_trans h (by decide)
theorem szl_lt {n : Nat} (h : n ≤ szl) : n < sizeLine := Nat.lt_of_le_of_lt h (by decide)
theorem S_add (a b : List Nat) : S a ++ S b = S (a ++ b) := congrArg Str.mk (show a.toArray ++ b.toArray = (a ++ b).toArray by simp)
def opAdd : D → D → Option Rs
  | .int i, .int j => some (.sh (.int (i + j)))
  | .str a, .str b => if a.length + b.length ≤ szl then some (.sh (.str (a ++ b))) else none
  | .lst a, .lst b => if a.length + b.length ≤ szl then some (.ow (a ++ b)) else none
  | _, _ => none
def rAddA : R2 := fun x y H Q => rI0 (fun i j => .int (i + j)) x y H Q ∨ (∃ i j, x = .str i ∧ y = .str j ∧ i.length + j.length ≤ sizeLine ∧ Q (.str (i ++ j)) H) ∨ rCat x y H Q
theorem o_add {X : Cx} : OpR X (binaryOp .Add) rAddA := OpR.or op_add (OpR.or op_add_str op_cat)
theorem s_add {κ : Kx} : OpV κ rAddA opAdd := fun W σ x y dx dy z H G env Q e r rx ry q => by
  cases dx <;> cases dy <;> try (cases e; done)
  · cases e
    exact .inl ⟨_, _, rx.int, ry.int, post_sh r (.int _) q⟩
  · rename_i a b
    dsimp only [opAdd] at e
    by_cases h : a.length + b.length ≤ szl
    · rw [if_pos h] at e
      cases e
      refine .inr (.inl ⟨_, _, rx.str, ry.str, by rw [S_len, S_len]; exact szl_le h, ?_⟩)
      rw [S_add]
      exact post_sh r (.str _) q
    · rw [if_neg h] at e; cases e
  · rename_i a b
    dsimp only [opAdd] at e
    by_cases h : a.length + b.length ≤ szl
    · rw [if_pos h] at e
      cases e
      obtain ⟨p, xs, rfl, h1, h2⟩ := rx.lst r.sub
      obtain ⟨p', ys, rfl, h3, h4⟩ := ry.lst r.sub
      exact .inr (.inr ⟨_, _, _, _, rfl, rfl, h1, h3, by rw [h2.length, h4.length]; exact szl_le h, fun p hp => post_ow r hp (h2.append h4) q⟩)
    · rw [if_neg h] at e; cases e
def opSub : D → D → Option Rs
  | .int i, .int j => some (.sh (.int (i - j)))
  | _, _ => none
theorem s_sub {κ : Kx} : OpV κ (rI0 fun i j => .int (i - j)) opSub := fun W σ x y dx dy z H G env Q e r rx ry q => by
  cases dx <;> cases dy <;> try (cases e; done)
  cases e
  exact ⟨_, _, rx.int, ry.int, post_sh r (.int _) q⟩
def opMod : D → D → Option Rs
  | .int i, .int j => if 0 < j then some (.sh (.int (i % j))) else none
  | _, _ => none
theorem s_mod {κ : Kx} : OpV κ (rI (fun _ j => 0 < j) fun i j => .int (i % j)) opMod := fun W σ x y dx dy z H G env Q e r rx ry q => by
  cases dx <;> cases dy <;> try (cases e; done)
  rename_i a b
  dsimp only [opMod] at e
  by_cases h : 0 < b
  · rw [if_pos h] at e
    cases e
    exact ⟨_, _, rx.int, ry.int, h, post_sh r (.int _) q⟩
  · rw [if_neg h] at e; cases e
def opDiv : D → D → Option Rs
  | .int i, .int j => if 0 < j ∧ j < 1000000000000000000000000000 then some (.sh (.int (i / j))) else none
  | _, _ => none
theorem s_div {κ : Kx} : OpV κ (rI CDivW fun i j => .int (i / j)) opDiv := fun W σ x y dx dy z H G env Q e r rx ry q => by
  cases dx <;> cases dy <;> try (cases e; done)
  rename_i a b
  dsimp only [opDiv] at e
  by_cases h : 0 < b ∧ b < 1000000000000000000000000000
  · rw [if_pos h] at e
    cases e
    exact ⟨_, _, rx.int, ry.int, wide_div (b := 90) h.1 (by omega) (by decide) (by decide), post_sh r (.int _) q⟩
  · rw [if_neg h] at e; cases e
def opMul : D → D → Option Rs
  | .int i, .int j => if Builtin.Int.intBits i + Builtin.Int.intBits j ≤ 134217728 then some (.sh (.int (i * j))) else none
  | .str a, .int j => if 0 ≤ j ∧ j ≤ 100000 ∧ a.length * j.toNat ≤ szl then some (.sh (.str (List.replicate j.toNat a).flatten)) else none
  | .lst a, .int j => if 0 ≤ j ∧ j ≤ 100000 ∧ a.length * j.toNat ≤ szl then some (.ow (List.replicate j.toNat a).flatten) else none
  | _, _ => none
def rMulS : R2 := fun x y H Q => ∃ (a : List Nat) (j : Int), x = .str (S a) ∧ y = .int j ∧ 0 ≤ j ∧ j ≤ 100000 ∧ a.length * j.toNat ≤ szl ∧ Q (.str (S (List.replicate j.toNat a).flatten)) H
theorem fold_rep (a : List Nat) : ∀ (n : Nat) (b : Array Nat), (List.replicate n a.toArray).foldl (· ++ ·) b = b ++ (List.replicate n a).flatten.toArray
  | 0, b => by simp
  | n + 1, b => by
    rw [List.replicate_succ, List.foldl_cons, fold_rep a n, List.replicate_succ, List.flatten_cons]
    simp
theorem mul_S (a : List Nat) (j : Int) (h : 0 ≤ j) : Txt.mul (S a) j = S (List.replicate j.toNat a).flatten := by
  unfold Txt.mul
  by_cases h1 : j < 1
  · rw [if_pos h1]
    have : j.toNat = 0 := by omega
    rw [this]
    rfl
  · rw [if_neg h1]
    by_cases h2 : (j == 1 || (S a).length == 0) = true
    · rw [if_pos h2]
      rw [Bool.or_eq_true] at h2
      rcases h2 with h2 | h2
      · have : j = 1 := by simpa using h2
        subst this
        show S a = S _
        rw [show (1 : Int).toNat = 1 from rfl, List.replicate_one]
        simp
      · rw [S_len] at h2
        have h3 : a = [] := by simpa using h2
        subst h3
        have : (List.replicate j.toNat ([] : List Nat)).flatten = [] := by simp
        rw [this]
    · rw [if_neg h2]
      show Str.mk _ = Str.mk _
      congr 1
      rw [show (S a).cps = a.toArray from rfl, fold_rep]
      simp
theorem o_mulS {X : Cx} : OpR X (binaryOp .Mult) rMulS := by
  intro pins s σ H x y v u Q I rx ry h
  obtain ⟨a, j, rfl, rfl, h1, h2, h3, q⟩ := h
  obtain ⟨t, rfl⟩ := rx
  obtain ⟨t', rfl⟩ := ry
  have hsz : sizeLine = 16777216 := sizeLine_eq
  refine SB.mul ⟨?_, fun h4 h5 => ?_, fun h4 h5 => ?_⟩ fun t' k => ?_
  · rw [Bool.or_eq_false_iff]
    exact ⟨decide_eq_false (by omega), decide_eq_false (by omega)⟩
  · rw [S_len]
    have h6 : (a.length : Int) * j ≤ 1000000 := by
      have e : ((a.length * j.toNat : Nat) : Int) = (a.length : Int) * j := by
        rw [Int.natCast_mul, Int.toNat_of_nonneg h1]
      rw [← e]
      have h3' : a.length * j.toNat ≤ 1000000 := h3
      exact Int.ofNat_le.mpr h3'
    have h7 : (a.length : Int) ≤ (a.length : Int) * j := by
      have : (a.length : Int) * 1 ≤ (a.length : Int) * j := Int.mul_le_mul_of_nonneg_left (by omega) (by omega)
      omega
    have h8 : (92233720368547 : Int) ≤ (2 ^ 63 - 1) / j := by
      rw [Int.le_ediv_iff_mul_le (by omega)]
      have : (92233720368547 : Int) * j ≤ 92233720368547 * 100000 := Int.mul_le_mul_of_nonneg_left h2 (by decide)
      omega
    omega
  · rw [S_len]
    unfold Builtin.Str.tooLong
    have : ¬ (a.length * j.toNat > sizeLine) := by
      have : a.length * j.toNat ≤ 1000000 := h3
      omega
    simpa using this
  · rw [mul_S a j h1]
    exact ⟨.str _, H, I.tok _, ⟨_, rfl⟩, q⟩
def rMulA : R2 := fun x y H Q => rI CMulX (fun i j => .int (i * j)) x y H Q ∨ rMulS x y H Q ∨ rRep x y H Q
theorem o_mul {X : Cx} : OpR X (binaryOp .Mult) rMulA := OpR.or op_mulX (OpR.or o_mulS op_rep)
theorem RpA.rep {κ : Kx} {G : Hp} {xs : List V} {l : List D} (h : RpA κ G xs l) : ∀ n : Nat, RpA κ G (List.replicate n xs).flatten (List.replicate n l).flatten
  | 0 => .nil
  | n + 1 => by
    rw [List.replicate_succ, List.replicate_succ, List.flatten_cons, List.flatten_cons]
    exact h.append (RpA.rep h n)
theorem s_mul {κ : Kx} : OpV κ rMulA opMul := fun W σ x y dx dy z H G env Q e r rx ry q => by
  cases dx <;> cases dy <;> try (cases e; done)
  · rename_i i j
    dsimp only [opMul] at e
    by_cases h : Builtin.Int.intBits i + Builtin.Int.intBits j ≤ 134217728
    · rw [if_pos h] at e
      cases e
      exact .inl ⟨_, _, rx.int, ry.int, by show ((Builtin.Int.intBits i : Nat) : Int) + ((Builtin.Int.intBits j : Nat) : Int) ≤ 134217728; omega, post_sh r (.int _) q⟩
    · rw [if_neg h] at e; cases e
  · rename_i a j
    dsimp only [opMul] at e
    by_cases h : 0 ≤ j ∧ j ≤ 100000 ∧ a.length * j.toNat ≤ szl
    · rw [if_pos h] at e
      cases e
      exact .inr (.inl ⟨_, _, rx.str, ry.int, h.1, h.2.1, h.2.2, post_sh r (.str _) q⟩)
    · rw [if_neg h] at e; cases e
  · rename_i a j
    dsimp only [opMul] at e
    by_cases h : 0 ≤ j ∧ j ≤ 100000 ∧ a.length * j.toNat ≤ szl
    · rw [if_pos h] at e
      cases e
      obtain ⟨p, xs, rfl, h1, h2⟩ := rx.lst r.sub
      exact .inr (.inr ⟨_, _, _, rfl, ry.int, h1, by omega, by omega, by rw [h2.length]; exact szl_le h.2.2, fun p hp => post_ow r hp (h2.rep _) q⟩)
    · rw [if_neg h] at e; cases e
def opPow : D → D → Option Rs
  | .int i, .int j => if 0 ≤ j ∧ j ≤ 1000 ∧ 0 ≤ i ∧ i ≤ 1000000 then some (.sh (.int (i ^ j.toNat))) else none
  | _, _ => none
theorem s_pow {κ : Kx} : OpV κ (rI CPow fun i j => .int (i ^ j.toNat)) opPow := fun W σ x y dx dy z H G env Q e r rx ry q => by
  cases dx <;> cases dy <;> try (cases e; done)
  rename_i a b
  dsimp only [opPow] at e
  by_cases h : 0 ≤ b ∧ b ≤ 1000 ∧ 0 ≤ a ∧ a ≤ 1000000
  · rw [if_pos h] at e
    cases e
    exact ⟨_, _, rx.int, ry.int, ⟨h.1, by omega, by omega⟩, post_sh r (.int _) q⟩
  · rw [if_neg h] at e; cases e
/-! ### comparisons -/
mutual
def D.toP : D → PyData
  | .non => .none
  | .bl b => .bool b
  | .int i => .int i
  | .str w => .str (S w)
  | .lst l => .list (toPA l)
  | .tup l => .tuple (toPA l)
  | .ob _ _ => .none
  | .scr _ => .none
  | .xn _ _ => .none
def toPA : List D → List PyData
  | [] => []
  | d :: ds => d.toP :: toPA ds
end
mutual
def D.pl : D → Bool
  | .non => true
  | .bl _ => true
  | .int _ => true
  | .str w => w.all fun c => c < 0x110000
  | .lst l => plA l
  | .tup l => plA l
  | .ob _ _ => false
  | .scr _ => false
  | .xn _ _ => false
def plA : List D → Bool
  | [] => true
  | d :: ds => d.pl && plA ds
end
mutual
theorem pl_lay : ∀ d : D, d.pl = true → d.toP.canLay0 = true
  | .non, _ => by simp only [D.toP, PyData.canLay0]
  | .bl _, _ => by simp only [D.toP, PyData.canLay0]
  | .int _, _ => by simp only [D.toP, PyData.canLay0]
  | .str w, h => by
    simp only [D.toP, PyData.canLay0, PyData.strOk]
    simpa [D.pl, S] using h
  | .lst l, h => by
    simp only [D.toP, PyData.canLay0]
    exact plA_lay l (by simpa [D.pl] using h)
  | .tup l, h => by
    simp only [D.toP, PyData.canLay0]
    exact plA_lay l (by simpa [D.pl] using h)
  | .ob _ _, h => by simp [D.pl] at h
  | .scr _, h => by simp [D.pl] at h
  | .xn _ _, h => by simp [D.pl] at h
theorem plA_lay : ∀ l : List D, plA l = true → PyData.canLayAll0 (toPA l) = true
  | [], _ => by simp only [toPA, PyData.canLayAll0]
  | d :: ds, h => by
    have h' : d.pl = true ∧ plA ds = true := by simpa [plA] using h
    simp only [toPA, PyData.canLayAll0, pl_lay d h'.1, plA_lay ds h'.2, Bool.and_self]
end
section
variable {κ : Kx} {H G : Hp}
mutual
theorem Rp.dp (s : Same G H) : ∀ {v : V} {d : D}, Rp κ G v d → d.pl = true → Dp κ.K H v d.toP
  | _, _, .non, _ => .non
  | _, _, .bl b, _ => .bl b
  | _, _, .int i, _ => .int i
  | _, _, .str w, _ => .str _
  | _, _, .lst h t, p => .lst (SqL.of (s _ _ h)) (RpA.dp s t (by simpa [D.pl] using p))
  | _, _, .tup h t, p => .tup (SqT.of (s _ _ h)) (RpA.dp s t (by simpa [D.pl] using p))
  | _, _, .ob _ _ _, p => by simp [D.pl] at p
  | _, _, .scr _, p => by simp [D.pl] at p
  | _, _, .xn _, p => by simp [D.pl] at p
theorem RpA.dp (s : Same G H) : ∀ {vs : List V} {ds : List D}, RpA κ G vs ds → plA ds = true → DpAll κ.K H vs (toPA ds)
  | _, _, .nil, _ => .nil
  | _, _, .cons h t, p => by
    have p' := p
    simp only [plA, Bool.and_eq_true] at p'
    exact .cons (Rp.dp s h p'.1) (RpA.dp s t p'.2)
end
theorem RBq.dp {v : V} {d : D} (s : Same G H) (r : RBq κ H G v d) (p : d.pl = true) : Dp κ.K H v d.toP := by
  rcases r with r | ⟨a, xs, l, rfl, rfl, h3, h4⟩
  · exact r.dp s p
  · exact .lst (SqL.of h3) (h4.dp s (by simpa [D.pl] using p))
end
def D.okE (d : D) : Bool := d.pl && decide (d.toP.depth ≤ 64)
theorem okE_shaped {d : D} (h : d.okE = true) : SeqAt.shaped d.toP = true := by
  unfold D.okE at h
  rw [Bool.and_eq_true] at h
  unfold SeqAt.shaped
  rw [pl_lay d h.1, h.2]
  rfl
theorem okE_pl {d : D} (h : d.okE = true) : d.pl = true := by
  unfold D.okE at h
  rw [Bool.and_eq_true] at h
  exact h.1
def cEq : D → D → Option Bool
  | .int i, .int j => some (decide (i = j))
  | .str a, .str b => some (decide (a = b))
  | .bl a, .bl b => some (decide (a = b))
  | x, y => if x.okE = true ∧ y.okE = true then some (PyData.eqv x.toP y.toP) else none
def cNe : D → D → Option Bool := fun x y => match cEq x y with
  | some b => some (!b)
  | none => none
def rEqA (κ : Kx) : R2 := fun x y H Q => rEq x y H Q ∨ rEqD κ.K x y H Q
def rNeA (κ : Kx) : R2 := fun x y H Q => rNe x y H Q ∨ rNeD κ.K x y H Q
theorem o_eq {X : Cx} {κ : Kx} (hK : X.K = κ.K) (hu : X.A.units + 64 < cLine) : OpR X (compareOp .Eq) (rEqA κ) := by
  unfold rEqA
  rw [← hK]
  exact OpR.or op_eq (op_eqD hu)
theorem o_ne {X : Cx} {κ : Kx} (hK : X.K = κ.K) (hu : X.A.units + 64 < cLine) : OpR X (compareOp .NotEq) (rNeA κ) := by
  unfold rNeA
  rw [← hK]
  exact OpR.or op_ne (op_neD hu)
theorem dec_S {a b : List Nat} : decide (V.str (S a) = V.str (S b)) = decide (a = b) := by
  by_cases h : a = b
  · subst h; simp
  · rw [decide_eq_false h, decide_eq_false]
    intro z
    injection z with z
    exact h (S_inj z)
theorem cEq_cases (x y : D) : (∃ i j, x = .int i ∧ y = .int j) ∨ (∃ i j, x = .str i ∧ y = .str j) ∨ (∃ i j, x = .bl i ∧ y = .bl j) ∨ cEq x y = if x.okE = true ∧ y.okE = true then some (PyData.eqv x.toP y.toP) else none := by
  cases x <;> cases y <;> first
    | exact .inl ⟨_, _, rfl, rfl⟩
    | exact .inr (.inl ⟨_, _, rfl, rfl⟩)
    | exact .inr (.inr (.inl ⟨_, _, rfl, rfl⟩))
    | exact .inr (.inr (.inr rfl))
theorem eqA {κ : Kx} {x y : V} {dx dy : D} {z : Bool} {H G : Hp} {Q : VK} (e : cEq dx dy = some z) (s : Same G H) (rx : RBq κ H G x dx) (ry : RBq κ H G y dy) :
    (Q (.bl z) H → rEqA κ x y H Q) ∧ (Q (.bl (!z)) H → rNeA κ x y H Q) := by
  rcases cEq_cases dx dy with ⟨i, j, rfl, rfl⟩ | ⟨i, j, rfl, rfl⟩ | ⟨i, j, rfl, rfl⟩ | h
  · cases e
    rw [rx.int, ry.int]
    refine ⟨fun q => .inl ⟨rfl, ?_⟩, fun q => .inl ⟨rfl, ?_⟩⟩
    · rw [show decide (V.int i = V.int j) = decide (i = j) by simp]; exact q
    · rw [show decide (V.int i = V.int j) = decide (i = j) by simp]; exact q
  · cases e
    rw [rx.str, ry.str]
    refine ⟨fun q => .inl ⟨rfl, ?_⟩, fun q => .inl ⟨rfl, ?_⟩⟩
    · rw [dec_S]; exact q
    · rw [dec_S]; exact q
  · cases e
    rw [rx.bl, ry.bl]
    refine ⟨fun q => .inl ⟨rfl, ?_⟩, fun q => .inl ⟨rfl, ?_⟩⟩
    · rw [show decide (V.bl i = V.bl j) = decide (i = j) by simp]; exact q
    · rw [show decide (V.bl i = V.bl j) = decide (i = j) by simp]; exact q
  · rw [h] at e
    by_cases o : dx.okE = true ∧ dy.okE = true
    · rw [if_pos o] at e
      cases e
      exact ⟨fun q => .inr ⟨_, _, rx.dp s (okE_pl o.1), ry.dp s (okE_pl o.2), okE_shaped o.1, okE_shaped o.2, q⟩, fun q => .inr ⟨_, _, rx.dp s (okE_pl o.1), ry.dp s (okE_pl o.2), okE_shaped o.1, okE_shaped o.2, q⟩⟩
    · rw [if_neg o] at e; cases e
theorem s_eq {κ : Kx} : OpB κ (rEqA κ) cEq := fun x y dx dy z H G Q e s rx ry q => (eqA e s rx ry).1 q
theorem s_ne {κ : Kx} : OpB κ (rNeA κ) cNe := fun x y dx dy z H G Q e s rx ry q => by
  unfold cNe at e
  cases h : cEq dx dy with
  | none => rw [h] at e; cases e
  | some b =>
    rw [h] at e
    cases e
    exact (eqA h s rx ry).2 q
/-- < and its like: two ints, or two texts -/
def cmpB (f : Int → Int → Bool) (g : List Nat → List Nat → Bool) : D → D → Option Bool
  | .int i, .int j => some (f i j)
  | .str a, .str b => some (g a b)
  | _, _ => none
abbrev cLt := cmpB (fun i j => decide (i < j)) (fun a b => decide (a < b))
abbrev cLe := cmpB (fun i j => decide (i ≤ j)) (fun a b => !decide (b < a))
abbrev cGt := cmpB (fun i j => decide (j < i)) (fun a b => decide (b < a))
abbrev cGe := cmpB (fun i j => decide (j ≤ i)) (fun a b => !decide (a < b))
def rCm (f : Int → Int → Bool) (g : List Nat → List Nat → Bool) : R2 := fun x y H Q => rI0 (fun i j => .bl (f i j)) x y H Q ∨ ∃ i j : Str, x = .str i ∧ y = .str j ∧ Q (.bl (g i.cps.toList j.cps.toList)) H
theorem s_cm {κ : Kx} {f : Int → Int → Bool} {g : List Nat → List Nat → Bool} : OpB κ (rCm f g) (cmpB f g) := fun x y dx dy z H G Q e s rx ry q => by
  cases dx <;> cases dy <;> try (cases e; done)
  · cases e
    exact .inl ⟨_, _, rx.int, ry.int, q⟩
  · cases e
    exact .inr ⟨_, _, rx.str, ry.str, q⟩
section
variable {X : Cx}
theorem o_lt : OpR X (compareOp .Lt) (rCm (fun i j => decide (i < j)) (fun a b => decide (a < b))) := OpR.or op_lt op_lt_str
theorem o_le : OpR X (compareOp .LtE) (rCm (fun i j => decide (i ≤ j)) (fun a b => !decide (b < a))) := OpR.or op_le op_le_str
theorem o_gt : OpR X (compareOp .Gt) (rCm (fun i j => decide (j < i)) (fun a b => decide (b < a))) := OpR.or op_gt op_gt_str
theorem o_ge : OpR X (compareOp .GtE) (rCm (fun i j => decide (j ≤ i)) (fun a b => !decide (a < b))) := OpR.or op_ge op_ge_str
end
/-- is None -/
def cIsN : D → D → Option Bool := fun x y => match y with
  | .non => match x with
    | .non => some true
    | _ => some false
  | _ => none
def cNotN : D → D → Option Bool := fun x y => match cIsN x y with
  | some b => some (!b)
  | none => none
/-- in: a sign in a text, a flat value in a list or a tuple -/
def D.fl : D → Bool
  | .non => true
  | .bl _ => true
  | .int _ => true
  | .str _ => true
  | _ => false
def D.feq : D → D → Bool
  | .non, .non => true
  | .bl a, .bl b => a == b
  | .bl a, .int b => (if a then 1 else 0) == b
  | .int a, .bl b => a == (if b then 1 else 0)
  | .int a, .int b => a == b
  | .str a, .str b => a == b
  | _, _ => false
def cIn : D → D → Option Bool
  | .str [c], .str w => some (decide (c ∈ w))
  | x, .lst l => if x.fl = true ∧ l.all D.fl = true then some (l.any fun y => y.feq x) else none
  | x, .tup l => if x.fl = true ∧ l.all D.fl = true then some (l.any fun y => y.feq x) else none
  | _, _ => none
def cNin : D → D → Option Bool := fun x y => match cIn x y with
  | some b => some (!b)
  | none => none
theorem Rp.flat {κ : Kx} {G : Hp} {v : V} {d : D} (r : Rp κ G v d) : flatV v = d.fl := by
  cases r <;> rfl
theorem Rp.feq {κ : Kx} {G : Hp} {v u : V} {d e : D} (r : Rp κ G v d) (q : Rp κ G u e) : eqV v u = d.feq e := by
  cases r <;> cases q <;> first
    | rfl
    | (rename_i a b
       show (S a == S b) = (a == b)
       rw [Bool.eq_iff_iff]
       simp only [beq_iff_eq]
       exact ⟨S_inj, fun z => by rw [z]⟩)
theorem RpA.fl {κ : Kx} {G : Hp} : ∀ {vs : List V} {ds : List D}, RpA κ G vs ds → vs.all flatV = ds.all D.fl
  | _, _, .nil => rfl
  | _, _, .cons r t => by rw [List.all_cons, List.all_cons, r.flat, RpA.fl t]
theorem RpA.any {κ : Kx} {G : Hp} {x : V} {dx : D} (rx : Rp κ G x dx) : ∀ {vs : List V} {ds : List D}, RpA κ G vs ds → inV x vs = ds.any fun y => y.feq dx
  | _, _, .nil => rfl
  | _, _, .cons r t => by
    have ih := RpA.any rx t
    unfold inV at ih ⊢
    rw [List.any_cons, List.any_cons, r.feq rx, ih]
def rInA (κ : Kx) (neg : Bool) : R2 := fun x y H Q => (∃ (c : Nat) (z : Str), x = .str ⟨#[c]⟩ ∧ y = .str z ∧ Q (.bl (if neg then !decide (c ∈ z.cps.toList) else decide (c ∈ z.cps.toList))) H) ∨ rIn κ.K neg x y H Q
theorem o_in {X : Cx} {κ : Kx} (hK : X.K = κ.K) : OpR X (compareOp .In) (rInA κ false) := by
  unfold rInA
  rw [← hK]
  exact OpR.or op_in_sign op_in_seq
theorem o_nin {X : Cx} {κ : Kx} (hK : X.K = κ.K) : OpR X (compareOp .NotIn) (rInA κ true) := by
  unfold rInA
  rw [← hK]
  exact OpR.or op_notIn_sign op_notIn_seq
theorem RBq.rp {κ : Kx} {H G : Hp} {v : V} {d : D} (r : RBq κ H G v d) (f : d.fl = true) : Rp κ G v d := by
  rcases r with r | ⟨a, xs, l, rfl, rfl, _⟩
  · exact r
  · cases f
theorem inA {κ : Kx} {neg : Bool} {x y : V} {dx dy : D} {z : Bool} {H G : Hp} {Q : VK} (e : cIn dx dy = some z) (s : Same G H) (rx : RBq κ H G x dx) (ry : RBq κ H G y dy) (q : Q (.bl (if neg then !z else z)) H) : rInA κ neg x y H Q := by
  cases dy with
  | str w =>
    cases dx with
    | str a =>
      cases a with
      | nil => cases e
      | cons c r =>
        cases r with
        | nil =>
          cases e
          exact .inl ⟨c, S w, rx.str, ry.str, q⟩
        | cons => cases e
    | _ => cases e
  | lst l =>
    have e' : (if dx.fl = true ∧ l.all D.fl = true then some (l.any fun y => y.feq dx) else none) = some z := by
      cases dx with
      | str a => cases a with
        | nil => exact e
        | cons c r => cases r <;> exact e
      | _ => exact e
    by_cases h : dx.fl = true ∧ l.all D.fl = true
    · rw [if_pos h] at e'
      cases e'
      obtain ⟨a, xs, rfl, h1, h2⟩ := ry.lst s
      have rx' := rx.rp h.1
      refine .inr ⟨a, xs, rfl, .inl (SqL.of h1), by rw [rx'.flat]; exact h.1, by rw [h2.fl]; exact h.2, ?_⟩
      rw [h2.any rx']
      exact q
    · rw [if_neg h] at e'; cases e'
  | tup l =>
    have e' : (if dx.fl = true ∧ l.all D.fl = true then some (l.any fun y => y.feq dx) else none) = some z := by
      cases dx with
      | str a => cases a with
        | nil => exact e
        | cons c r => cases r <;> exact e
      | _ => exact e
    by_cases h : dx.fl = true ∧ l.all D.fl = true
    · rw [if_pos h] at e'
      cases e'
      obtain ⟨a, xs, rfl, h1, h2⟩ := ry.tup s
      have rx' := rx.rp h.1
      refine .inr ⟨a, xs, rfl, .inr (SqT.of h1), by rw [rx'.flat]; exact h.1, by rw [h2.fl]; exact h.2, ?_⟩
      rw [h2.any rx']
      exact q
    · rw [if_neg h] at e'; cases e'
  | _ =>
    cases dx with
    | str a => cases a with
      | nil => cases e
      | cons c r => cases r <;> cases e
    | _ => cases e
theorem s_in {κ : Kx} : OpB κ (rInA κ false) cIn := fun x y dx dy z H G Q e s rx ry q => inA e s rx ry (by simpa using q)
theorem s_nin {κ : Kx} : OpB κ (rInA κ true) cNin := fun x y dx dy z H G Q e s rx ry q => by
  unfold cNin at e
  cases h : cIn dx dy with
  | none => rw [h] at e; cases e
  | some b =>
    rw [h] at e
    cases e
    exact inA h s rx ry (by simpa using q)

/-! ### places, slices, lengths, displays -/
theorem atI_rp {κ : Kx} {G : Hp} {xs : List V} {l : List D} {i : Int} {d : D} (h : RpA κ G xs l) (e : atI l i = some d) : ∃ v, atI xs i = some v ∧ Rp κ G v d := by
  unfold atI at e ⊢
  rw [h.length]
  cases z : ixN l.length i with
  | none => rw [z] at e; cases e
  | some j =>
    rw [z] at e
    exact h.getD e
def opIx : D → D → Option D
  | .lst l, .int i => atI l i
  | .tup l, .int i => atI l i
  | .scr l, .int i => match atI l i with
    | some n => some (.int n)
    | none => none
  | .str w, .int i => if w.length ≤ szl then (match atI w i with
    | some c => some (.str [c])
    | none => none) else none
  | _, _ => none
theorem atI_map {α β : Type} (f : α → β) (l : List α) (i : Int) : atI (l.map f) i = (atI l i).map f := by
  unfold atI
  rw [List.length_map]
  cases ixN l.length i with
  | none => rfl
  | some j => simp
section
variable {X : Cx} {κ : Kx} {W : WX} {a b c : Expr} {ma mb mc : Sm D} {pos p2 : Pos}
theorem v_ix (hK : X.K = κ.K) (ha : PE X a (tX κ W (RB κ) ma)) (hb : PE X b (tX κ W (RB κ) mb)) (hs : PlainIx b) : PE X (.Subscript a b pos) (tX κ W (RP κ) (fOp opIx ma mb)) :=
  PE.imp (pe_ix (r := rIx κ.K) (by rw [← hK]; exact ix_seq) ha hb hs) fun σ H Q h => op_tr (fun x y dx dy z H G env e r rx ry q => by
    cases dx with
    | lst l =>
      cases dy <;> try (cases e; done)
      obtain ⟨p, xs, rfl, h1, h2⟩ := rx.lst r.sub
      obtain ⟨v, h3, h4⟩ := atI_rp h2 e
      exact .inl ⟨_, _, _, _, rfl, ry.int, SqL.of h1, h3, q v H G r h4 (Grw.refl _) Fr.refl⟩
    | tup l =>
      cases dy <;> try (cases e; done)
      obtain ⟨p, xs, rfl, h1, h2⟩ := rx.tup r.sub
      obtain ⟨v, h3, h4⟩ := atI_rp h2 e
      exact .inr (.inl ⟨_, _, _, _, rfl, ry.int, SqT.of h1, h3, q v H G r h4 (Grw.refl _) Fr.refl⟩)
    | scr l =>
      cases dy <;> try (cases e; done)
      rename_i i
      obtain ⟨p, rfl, h1⟩ := rx.scr r.sub
      dsimp only [opIx] at e
      cases w : atI l i with
      | none => rw [w] at e; cases e
      | some n =>
        rw [w] at e
        cases e
        exact .inl ⟨_, _, _, _, rfl, ry.int, h1, by rw [atI_map, w]; rfl, q _ H G r (.int n) (Grw.refl _) Fr.refl⟩
    | str t =>
      cases dy <;> try (cases e; done)
      rename_i i
      dsimp only [opIx] at e
      by_cases hl : t.length ≤ szl
      · rw [if_pos hl] at e
        cases w : atI t i with
        | none => rw [w] at e; cases e
        | some c =>
          rw [w] at e
          cases e
          exact .inr (.inr ⟨S t, i, c, rx.str, ry.int, by rw [S_len]; exact szl_le hl, w, q _ H G r (.str [c]) (Grw.refl _) Fr.refl⟩)
      · rw [if_neg hl] at e; cases e
    | _ => cases dy <;> cases e) h
/-- a part of a slice -/
def ROi : Rl (Option Int) (Option Int) := fun _ _ _ _ _ o p => o = p
instance : RlMono ROi := ⟨fun _ q => q⟩
def poN : Sm (Option Int) := fun e => some (.ok none e)
def poS (m : Sm D) : Sm (Option Int) := bnd m fun d e => match d with
  | .int i => some (.ok (some i) e)
  | _ => none
theorem po_imp {e : Option Expr} {t t' : TO} (h : PO X e t) (k : ∀ σ H Q, t' σ H Q → t σ H Q) : PO X e t' := ⟨fun pins s σ H Q I q => h.run pins s σ H Q I (k σ H Q q)⟩
theorem o_none : PO X none (tX κ W ROi poN) := po_imp po_none fun σ H Q ⟨G, env, r, q⟩ => q none H G r rfl (Grw.refl _) Fr.refl
theorem o_some (h : PE X a (tX κ W (RB κ) ma)) : PO X (some a) (tX κ W ROi (poS ma)) := po_imp (po_some h) fun σ H Q ⟨G, env, r, q⟩ =>
  bind_post r q fun d e1 v H1 G1 _ r1 rv s1 f1 q1 => by
    cases d <;> try (cases q1; done)
    exact ⟨_, RBq.int rv, q1 _ H1 G1 r1 rfl (Grw.refl _) Fr.refl⟩
def cutL {α : Type} (l : List α) (lo hi : Option Int) : List α := (l.drop (HT.sIx l.length 0 lo)).take (HT.sIx l.length l.length hi - HT.sIx l.length 0 lo)
def opSl : D → Option Int → Option Int → Option Rs
  | .str w, lo, hi => if w.length ≤ szl then some (.sh (.str (cutL w lo hi))) else none
  | .lst l, lo, hi => some (.ow (cutL l lo hi))
  | .scr l, lo, hi => some (.ow ((cutL l lo hi).map D.int))
  | .tup l, lo, hi => if HT.sIx l.length 0 lo = 0 ∧ HT.sIx l.length l.length hi = l.length then none else some (.sh (.tup (cutL l lo hi)))
  | _, _, _ => none
def fSl (m : Sm D) (lo hi : Sm (Option Int)) : Sm Rs := bnd m fun d => bnd lo fun i => bnd hi fun j e => match opSl d i j with
  | some z => some (.ok z e)
  | none => none
theorem v_sl {lo hi : Option Expr} {ml mh : Sm (Option Int)} (hK : X.K = κ.K) (ha : PE X a (tX κ W (RB κ) ma)) (hl : PO X lo (tX κ W ROi ml)) (hh : PO X hi (tX κ W ROi mh)) :
    PE X (.Subscript a (.Slice lo hi none p2) pos) (tX κ W (RV κ) (fSl ma ml mh)) :=
  PE.imp (pe_slice (r := fun x lo hi H Q => rSlS x lo hi H Q ∨ rSlL κ.K x lo hi H Q ∨ rSlT κ.K x lo hi H Q) (by rw [← hK]; exact SlR.or sl_str (SlR.or sl_list sl_tup)) ha hl hh) fun σ H Q ⟨G, env, r, q⟩ => by
    refine bind_post r q fun d e1 x H1 G1 _ r1 rx s1 f1 q1 => ?_
    refine bind_post r1 q1 fun i e2 i' H2 G2 _ r2 ri s2 f2 q2 => ?_
    refine bind_post r2 q2 fun j e3 j' H3 G3 _ r3 rj s3 f3 q3 => ?_
    cases ri
    cases rj
    have rx3 := RBq.mono (s2.trans s3) (f2.gk.trans f3.gk) rx
    cases d with
    | str w =>
      dsimp only [opSl] at q3
      by_cases h : w.length ≤ szl
      · rw [if_pos h] at q3
        exact .inl ⟨S w, rx3.str, by rw [S_len]; exact szl_le h, post_sh r3 (show Rp κ G3 (.str (cutS (S w) i j)) (.str (cutL w i j)) by
          have e : cutS (S w) i j = S (cutL w i j) := by
            unfold cutS cutL S
            rfl
          rw [e]; exact .str _) q3⟩
      · rw [if_neg h] at q3; exact q3.elim
    | lst l =>
      obtain ⟨p, xs, rfl, h1, h2⟩ := rx3.lst r3.sub
      refine .inr (.inl ⟨p, xs, rfl, SqL.of h1, fun p' hp => ?_⟩)
      have e : RpA κ G3 (cutV xs i j) (cutL l i j) := by
        unfold cutV cutL
        rw [h2.length]
        exact (h2.drop _).take _
      exact post_ow r3 hp e q3
    | scr l =>
      obtain ⟨p, rfl, h1⟩ := rx3.scr r3.sub
      refine .inr (.inl ⟨p, _, rfl, h1, fun p' hp => ?_⟩)
      have e : RpA κ G3 (cutV (l.map V.int) i j) ((cutL l i j).map D.int) := by
        have e2 : cutV (l.map V.int) i j = (cutL l i j).map V.int := by
          unfold cutV cutL
          rw [List.length_map, List.map_take, List.map_drop]
        rw [e2]
        exact RpA.ints _
      exact post_ow r3 hp e q3
    | tup l =>
      dsimp only [opSl] at q3
      by_cases h : HT.sIx l.length 0 i = 0 ∧ HT.sIx l.length l.length j = l.length
      · rw [if_pos h] at q3; exact q3.elim
      · rw [if_neg h] at q3
        obtain ⟨p, xs, rfl, h1, h2⟩ := rx3.tup r3.sub
        refine .inr (.inr ⟨p, xs, rfl, SqT.of h1, by rw [h2.length]; exact h, fun p' hp => ?_⟩)
        have e : RpA κ G3 (cutV xs i j) (cutL l i j) := by
          unfold cutV cutL
          rw [h2.length]
          exact (h2.drop _).take _
        exact post_tup r3 hp e q3
    | _ => exact q3.elim
end
/-! ### arguments -/
def aNil : Sm (List D) := fun e => some (.ok [] e)
def aCons (m : Sm D) (ms : Sm (List D)) : Sm (List D) := bnd m fun d => bnd ms fun ds e => some (.ok (d :: ds) e)
theorem RBs.mono {κ : Kx} {H G H' G' : Hp} (h : Grw H H') (g : Same G G') : ∀ {ms : List Bool} {vs : List V} {ds : List D}, RBs κ H G ms vs ds → RBs κ H' G' ms vs ds
  | _, _, _, .nil => .nil
  | _, _, _, .sh r t => .sh (r.mono g) (RBs.mono h g t)
  | _, _, _, .bo r t => .bo (RBq.mono h g r) (RBs.mono h g t)
section
variable {X : Cx} {κ : Kx} {W : WX} {a b c : Expr} {ma mb mc : Sm D} {es : List Expr} {ms : List Bool} {mr : Sm (List D)} {pos p2 : Pos}
theorem a_nil : PA X [] (tX κ W (RA κ []) aNil) := PA.imp pa_nil fun σ H Q ⟨G, env, r, q⟩ => q [] H G r .nil (Grw.refl _) Fr.refl
theorem a_bo (ha : PE X a (tX κ W (RB κ) ma)) (hr : PA X es (tX κ W (RA κ ms) mr)) (hs : starEach (a :: es) X.env = (false, eval a X.env) :: starEach es X.env := by rfl) : PA X (a :: es) (tX κ W (RA κ (true :: ms)) (aCons ma mr)) :=
  PA.imp (pa_cons ha hr hs) fun σ H Q ⟨G, env, r, q⟩ => by
    refine bind_post r q fun d e1 x H1 G1 _ r1 rx s1 f1 q1 => ?_
    refine bind_post r1 q1 fun ds e2 vs H2 G2 _ r2 rs s2 f2 q2 => ?_
    exact q2 (x :: vs) H2 G2 r2 (.bo (RBq.mono s2 f2.gk rx) rs) (Grw.refl _) Fr.refl
theorem a_sh (ha : PE X a (tX κ W (RP κ) ma)) (hr : PA X es (tX κ W (RA κ ms) mr)) (hs : starEach (a :: es) X.env = (false, eval a X.env) :: starEach es X.env := by rfl) : PA X (a :: es) (tX κ W (RA κ (false :: ms)) (aCons ma mr)) :=
  PA.imp (pa_cons ha hr hs) fun σ H Q ⟨G, env, r, q⟩ => by
    refine bind_post r q fun d e1 x H1 G1 _ r1 rx s1 f1 q1 => ?_
    refine bind_post r1 q1 fun ds e2 vs H2 G2 _ r2 rs s2 f2 q2 => ?_
    exact q2 (x :: vs) H2 G2 r2 (.sh (Rp.mono f2.gk rx) rs) (Grw.refl _) Fr.refl
/-- all given away -/
def allSh : List Bool → Bool
  | [] => true
  | b :: r => !b && allSh r
theorem RBs.all : ∀ {ms : List Bool} {vs : List V} {ds : List D} {H G : Hp}, allSh ms = true → RBs κ H G ms vs ds → RpA κ G vs ds
  | _, _, _, _, _, _, .nil => .nil
  | _, _, _, _, _, h, .sh r t => .cons r (RBs.all (by simpa [allSh] using h) t)
  | _, _, _, _, _, h, .bo r t => by simp [allSh] at h
def fLst (m : Sm (List D)) : Sm Rs := bnd m fun l e => if l.length ≤ szl then some (.ok (.ow l) e) else none
def fTup (m : Sm (List D)) : Sm D := bnd m fun l e => if l.length ≤ szl then some (.ok (.tup l) e) else none
theorem v_lst (hm : allSh ms = true) (h : PA X es (tX κ W (RA κ ms) mr)) : PE X (.List es pos) (tX κ W (RV κ) (fLst mr)) := PE.imp (pe_lst h) fun σ H Q ⟨G, env, r, q⟩ => by
  refine bind_post r q fun l e1 vs H1 G1 _ r1 rx s1 f1 q1 => ?_
  by_cases hl : l.length ≤ szl
  · rw [if_pos hl] at q1
    have ra := RBs.all hm rx
    exact ⟨by rw [ra.length]; exact szl_le hl, fun p hp => post_ow r1 hp ra q1⟩
  · rw [if_neg hl] at q1; exact q1.elim
/-! ### built-ins by name -/
/-- a call on values serves its function -/
def ClV (κ : Kx) (ms : List Bool) (r : List V → Hp → VK → Prop) (f : List D → Option Rs) : Prop := ∀ (W : WX) (σ : L2.St) (vs : List V) (ds : List D) (z : Rs) (H : Hp) (G : Gh) (env : En) (Q : VK), f ds = some z → Rep κ H G σ env → RBs κ H G ms vs ds → EPost κ W (RV κ) σ H G env (some (.ok z env)) Q → r vs H Q
def fCl (f : List D → Option Rs) (m : Sm (List D)) : Sm Rs := bnd m fun ds e => match f ds with
  | some z => some (.ok z e)
  | none => none
theorem cl_tr {r : List V → Hp → VK → Prop} {f : List D → Option Rs} (hs : ClV κ ms r f) {σ : L2.St} {H : Hp} {Q : VK} (h : tX κ W (RV κ) (fCl f mr) σ H Q) : tCB r (tX κ W (RA κ ms) mr) σ H Q := by
  obtain ⟨G, env, rp, q⟩ := h
  refine bind_post rp q fun ds e1 vs H1 G1 _ r1 rx s1 f1 q1 => ?_
  cases z : f ds with
  | none => rw [z] at q1; exact q1.elim
  | some w => rw [z] at q1; exact hs W σ vs ds w H1 G1 e1 Q z r1 rx q1
theorem v_callB {r : List V → Hp → VK → Prop} {f : List D → Option Rs} {id : String} {x : Str} {p : Pos} (hc : CallR X (.builtin id) r) (hs : ClV κ ms r f) (hg : Gl X x) (hm : X.mg x = none) (hv : bootBuiltins x = some (.builtin id)) (ha : PA X (a :: es) (tX κ W (RA κ ms) mr))
    (hn : x ≠ "__name__" := by decide) (hdb : (x == ("__debug__" : Str)) = false := by decide) (he : starEach (a :: es) X.env = (false, eval a X.env) :: starEach es X.env := by rfl) (hpl : (backTo pos (starEach es X.env)).any (·.1) = false := by rfl) :
    PE X (.Call (.Name x p) (a :: es) [] pos) (tX κ W (RV κ) (fCl f mr)) := PE.imp (pe_callB hc hg hm hv ha hn hdb he hpl) fun σ H Q h => cl_tr hs h
theorem v_callTy {r : List V → Hp → VK → Prop} {f : List D → Option Rs} {T : String} {x : Str} {p : Pos} (hc : CallR X (.type T) r) (hs : ClV κ ms r f) (hg : Gl X x) (hm : X.mg x = none) (hv : bootBuiltins x = some (.type T)) (ha : PA X (a :: es) (tX κ W (RA κ ms) mr))
    (hn : x ≠ "__name__" := by decide) (hdb : (x == ("__debug__" : Str)) = false := by decide) (he : starEach (a :: es) X.env = (false, eval a X.env) :: starEach es X.env := by rfl) (hpl : (backTo pos (starEach es X.env)).any (·.1) = false := by rfl) :
    PE X (.Call (.Name x p) (a :: es) [] pos) (tX κ W (RV κ) (fCl f mr)) := PE.imp (pe_callTy hc hg hm hv ha hn hdb he hpl) fun σ H Q h => cl_tr hs h
end
theorem RBs.one {κ : Kx} {H G : Hp} {vs : List V} {d : D} (r : RBs κ H G [true] vs [d]) : ∃ v, vs = [v] ∧ RBq κ H G v d := by
  cases r with
  | bo r t => cases t; exact ⟨_, rfl, r⟩
theorem RBs.two {κ : Kx} {H G : Hp} {vs : List V} {d e : D} (r : RBs κ H G [true, true] vs [d, e]) : ∃ v u, vs = [v, u] ∧ RBq κ H G v d ∧ RBq κ H G u e := by
  cases r with
  | bo r t =>
    cases t with
    | bo r2 t2 => cases t2; exact ⟨_, _, rfl, r, r2⟩
def lenD : D → Option Nat
  | .str w => if w.length ≤ szl then some w.length else none
  | .lst l => some l.length
  | .tup l => some l.length
  | .scr l => some l.length
  | _ => none
def opLen : List D → Option Rs
  | [d] => match lenD d with
    | some n => some (.sh (.int n))
    | none => none
  | _ => none
theorem s_len {κ : Kx} : ClV κ [true] (fun xs H Q => ∃ x n, xs = [x] ∧ LenV κ.K x H n ∧ Q (.int n) H) opLen := fun W σ vs ds z H G env Q e r rx q => by
  cases ds with
  | nil => cases e
  | cons d t =>
    cases t with
    | cons _ _ => cases e
    | nil =>
      obtain ⟨v, rfl, rv⟩ := RBs.one rx
      dsimp only [opLen] at e
      cases w : lenD d with
      | none => rw [w] at e; cases e
      | some n =>
        rw [w] at e
        cases e
        refine ⟨v, n, rfl, ?_, post_sh r (.int _) q⟩
        cases d <;> try (cases w; done)
        · rename_i t
          dsimp only [lenD] at w
          by_cases h : t.length ≤ szl
          · rw [if_pos h] at w
            cases w
            rw [rv.str]
            exact ⟨by rw [S_len]; exact szl_le h, (S_len _).symm⟩
          · rw [if_neg h] at w; cases w
        · cases w
          obtain ⟨p, xs, rfl, h1, h2⟩ := rv.lst r.sub
          exact .inl ⟨xs, SqL.of h1, h2.length.symm⟩
        · cases w
          obtain ⟨p, xs, rfl, h1, h2⟩ := rv.tup r.sub
          exact .inr ⟨xs, SqT.of h1, h2.length.symm⟩
        · cases w
          obtain ⟨p, rfl, h1⟩ := rv.scr r.sub
          exact .inl ⟨_, h1, by rw [List.length_map]⟩
def opList : List D → Option Rs
  | [.lst l] => some (.ow l)
  | [.tup l] => some (.ow l)
  | [.scr l] => some (.ow (l.map D.int))
  | _ => none
theorem s_list {κ : Kx} : ClV κ [true] (fun xs H Q => ∃ p ys, xs = [.ref p] ∧ (SqL κ.K H p ys ∨ SqT κ.K H p ys) ∧ ∀ l, H l = none → Q (.ref l) (upd H l (.lst ys))) opList := fun W σ vs ds z H G env Q e r rx q => by
  cases ds with
  | nil => cases e
  | cons d t =>
    cases t with
    | cons _ _ => cases d <;> cases e
    | nil =>
      obtain ⟨v, rfl, rv⟩ := RBs.one rx
      cases d <;> try (cases e; done)
      · cases e
        obtain ⟨p, xs, rfl, h1, h2⟩ := rv.lst r.sub
        exact ⟨p, xs, rfl, .inl (SqL.of h1), fun l hl => post_ow r hl h2 q⟩
      · cases e
        obtain ⟨p, xs, rfl, h1, h2⟩ := rv.tup r.sub
        exact ⟨p, xs, rfl, .inr (SqT.of h1), fun l hl => post_ow r hl h2 q⟩
      · cases e
        obtain ⟨p, rfl, h1⟩ := rv.scr r.sub
        exact ⟨p, _, rfl, .inl h1, fun l hl => post_ow r hl (RpA.ints _) q⟩
def opMin : List D → Option Rs
  | [.int i, .int j] => some (.sh (.int (if j < i then j else i)))
  | _ => none
def opMax : List D → Option Rs
  | [.int i, .int j] => some (.sh (.int (if j > i then j else i)))
  | _ => none
def opStr : List D → Option Rs
  | [.int i] => if i.natAbs.log2 < 1920 then some (.sh (.str (toString i : Str).cps.toList)) else none
  | _ => none
def allInts : List D → Option (List Int)
  | [] => some []
  | .int i :: r => match allInts r with
    | some l => some (i :: l)
    | none => none
  | _ :: _ => none
theorem allInts_of : ∀ {l : List D} {ns : List Int}, allInts l = some ns → l = ns.map D.int
  | [], _, e => by cases e; rfl
  | d :: r, ns, e => by
    cases d <;> try (cases e; done)
    rename_i i
    dsimp only [allInts] at e
    cases h : allInts r with
    | none => rw [h] at e; cases e
    | some l =>
      rw [h] at e
      cases e
      rw [allInts_of h]
      rfl
def opSum : List D → Option Rs
  | [.lst l] => match allInts l with
    | some ns => some (.sh (.int ns.sum))
    | none => none
  | _ => none
/-! ### tests -/
def truD : D → Option Bool
  | .non => some false
  | .bl b => some b
  | .int i => some (i != 0)
  | .str w => if w.length ≤ szl then some (!w.isEmpty) else none
  | .lst l => some (!l.isEmpty)
  | .tup l => some (!l.isEmpty)
  | _ => none
def fTru (m : Sm D) : Sm Bool := bnd m fun d e => match truD d with
  | some b => some (.ok b e)
  | none => none
theorem RpA.emp {κ : Kx} {G : Hp} {xs : List V} {l : List D} (h : RpA κ G xs l) : xs.isEmpty = l.isEmpty := by cases h <;> rfl
theorem tru_of {κ : Kx} {H G : Hp} {v : V} {d : D} {b : Bool} (s : Same G H) (r : RBq κ H G v d) (e : truD d = some b) : TruV κ.K v H b := by
  cases d with
  | non => cases e; rw [r.non]; rfl
  | bl c => cases e; rw [r.bl]; rfl
  | int i => cases e; rw [r.int]; rfl
  | str w =>
    dsimp only [truD] at e
    by_cases h : w.length ≤ szl
    · rw [if_pos h] at e
      cases e
      rw [r.str]
      refine ⟨by rw [S_len]; exact szl_le h, ?_⟩
      rw [S_len]
      cases w <;> simp
      omega
    · rw [if_neg h] at e; cases e
  | lst l =>
    cases e
    obtain ⟨a, xs, rfl, h1, h2⟩ := r.lst s
    exact .inl ⟨xs, SqL.of h1, by rw [h2.emp]⟩
  | tup l =>
    cases e
    obtain ⟨a, xs, rfl, h1, h2⟩ := r.tup s
    exact .inr (.inl ⟨xs, SqT.of h1, by rw [h2.emp]⟩)
  | ob c l => cases e
  | scr l => cases e
  | xn o x => cases e
def fNot (m : Sm Bool) : Sm Bool := bnd m fun b e => some (.ok (!b) e)
def fAnd (m n : Sm Bool) : Sm Bool := bnd m fun b e => match b with
  | true => n e
  | false => some (.ok false e)
def fOr (m n : Sm Bool) : Sm Bool := bnd m fun b e => match b with
  | true => some (.ok true e)
  | false => n e
def fIf {α : Type} (t : Sm Bool) (m n : Sm α) : Sm α := bnd t fun b e => match b with
  | true => m e
  | false => n e
def fBl (m : Sm D) : Sm Bool := bnd m fun d e => match d with
  | .bl b => some (.ok b e)
  | _ => none
def fNotV (m : Sm D) : Sm D := bnd m fun d e => match d with
  | .bl b => some (.ok (.bl (!b)) e)
  | _ => none
def fAndV (m n : Sm D) : Sm D := bnd m fun d e => match d with
  | .bl true => n e
  | .bl false => some (.ok (.bl false) e)
  | _ => none
def fOrV (m n : Sm D) : Sm D := bnd m fun d e => match d with
  | .bl true => some (.ok (.bl true) e)
  | .bl false => n e
  | _ => none
section
variable {X : Cx} {κ : Kx} {W : WX} {a b c : Expr} {ma mb mc : Sm D} {mt mu : Sm Bool} {rest : List Expr} {pos : Pos}
theorem t_tru (hK : X.K = κ.K) (ha : PE X a (tX κ W (RB κ) ma)) (he : ∀ whole, isTrue a X.env whole = (do let v ← whole; standAt a.pos; holding [v] (truthy v)) := by intro _; rfl) : PT X a (tX κ W RT (fTru ma)) :=
  PT.imp (pt_truth ha he) fun σ H Q ⟨G, env, r, q⟩ => bind_post r q fun d e1 v H1 G1 em r1 rv s1 f1 q1 => by
    cases w : truD d with
    | none => rw [w] at q1; exact q1.elim
    | some b =>
      rw [w] at q1
      exact ⟨b, by rw [hK]; exact tru_of r1.sub rv w, post_tt r1 q1⟩
theorem t_not (ha : PT X a (tX κ W RT mt)) : PT X (.UnaryOp .Not a pos) (tX κ W RT (fNot mt)) := PT.imp (pt_not ha) fun σ H Q ⟨G, env, r, q⟩ => bind_post r q fun d e1 v H1 G1 em r1 rv s1 f1 q1 => by
  cases rv
  exact post_tt r1 q1
theorem w_or1 (ha : PT X a (tX κ W RT mt)) : PW X (.BoolOp .Or [a] pos) (tX κ W RT mt) := pw_or1 ha
theorem w_or (ha : PT X a (tX κ W RT mt)) (hb : PW X (.BoolOp .Or (b :: rest) pos) (tX κ W RT mu)) : PW X (.BoolOp .Or (a :: b :: rest) pos) (tX κ W RT (fOr mt mu)) := PW.imp (pw_or ha hb) fun σ H Q ⟨G, env, r, q⟩ => bind_post r q fun d e1 v H1 G1 em r1 rv s1 f1 q1 => by
  cases rv
  cases d with
  | false => exact ⟨G1, e1, r1, q1⟩
  | true => exact post_tt r1 q1
theorem v_one {op : BoolOp} (h : PE X a (tX κ W (RP κ) ma)) : PE X (.BoolOp op [a] pos) (tX κ W (RP κ) ma) := pe_one h
theorem v_and (ha : PE X a (tX κ W (RP κ) ma)) (hb : PE X (.BoolOp .And (b :: rest) pos) (tX κ W (RP κ) mb)) : PE X (.BoolOp .And (a :: b :: rest) pos) (tX κ W (RP κ) (fAndV ma mb)) := PE.imp (pe_and ha hb) fun σ H Q ⟨G, env, r, q⟩ => bind_post r q fun d e1 v H1 G1 em r1 rv s1 f1 q1 => by
  cases d <;> try (cases q1; done)
  cases rv
  rename_i k
  refine ⟨k, rfl, ?_⟩
  cases k with
  | true => exact ⟨G1, e1, r1, q1⟩
  | false => exact q1 _ H1 G1 r1 (.bl false) (Grw.refl _) Fr.refl
theorem v_not (ha : PE X a (tX κ W (RP κ) ma)) : PE X (.UnaryOp .Not a pos) (tX κ W (RP κ) (fNotV ma)) := PE.imp (pe_not ha) fun σ H Q ⟨G, env, r, q⟩ => bind_post r q fun d e1 v H1 G1 em r1 rv s1 f1 q1 => by
  cases d <;> try (cases q1; done)
  cases rv
  rename_i k
  exact ⟨k, rfl, q1 _ H1 G1 r1 (.bl _) (Grw.refl _) Fr.refl⟩
def fNeg (m : Sm D) : Sm D := bnd m fun d e => match d with
  | .int i => some (.ok (.int (-i)) e)
  | _ => none
theorem t_chain {op op' : CmpOp} {r r' : R2} {f g : D → D → Option Bool} (ho : OpR X (compareOp op) r) (hs : OpB κ r f) (ho' : OpR X (compareOp op') r') (hs' : OpB κ r' g) (ha : PE X a (tX κ W (RB κ) ma)) (hb : PE X b (tX κ W (RB κ) mb)) (hc : PE X c (tX κ W (RB κ) mc))
    (hm : lastMarks [op, op'] [b, c] = false := by with_unfolding_all rfl) : PT X (.Compare a [op, op'] [b, c] pos) (tX κ W RT (fCh f g ma mb mc)) := PT.imp (pt_chain ho ho' ha hb hc hm) fun σ H Q ⟨G, env, rp, q⟩ => by
  refine bind_post rp q fun dx e1 x H1 G1 _ rp1 rx s1 f1 q1 => ?_
  refine bind_post rp1 q1 fun dy e2 y H2 G2 _ rp2 ry s2 f2 q2 => ?_
  cases z : f dx dy with
  | none => rw [z] at q2; exact q2.elim
  | some w =>
    rw [z] at q2
    refine hs x y dx dy w H2 G2 _ z rp2.sub (RBq.mono s2 f2.gk rx) ry ⟨w, rfl, ?_⟩
    cases w with
    | false => exact ⟨false, rfl, post_tt rp2 q2⟩
    | true =>
      refine bind_post rp2 q2 fun dz e3 u H3 G3 _ rp3 ru s3 f3 q3 => ?_
      cases z3 : g dy dz with
      | none => rw [z3] at q3; exact q3.elim
      | some k =>
        rw [z3] at q3
        exact hs' y u dy dz k H3 G3 _ z3 rp3.sub (RBq.mono s3 f3.gk ry) ru ⟨k, rfl, post_tt rp3 q3⟩
end
/-! ### slots stored -/
def Rs.sl : Rs → Sl
  | .sh d => .sh d
  | .ow l => .ow l
  | .tr o => .tr o
/-- what is stored at slot i from here on -/
theorem put_all {κ : Kx} {σ : L2.St} {H H0 : Hp} {G G0 : Gh} {env env0 : En} {σ0 : L2.St} {v : V} (r : Rep κ H G σ env) {i : Nat} (hi : i < env.length) {z : Rs} (h : RV κ σ (Nw H0 G0 env0) H G env v z) (f : Fr H0 G0 σ0 env0 H G σ env) :
    ∃ G', Rep κ H G' (σ.set i (some v)) (env.set i z.sl) ∧ Fr H0 G0 σ0 env0 H G' (σ.set i (some v)) (env.set i z.sl) := by
  have e0 : env[i]? = some env[i] := List.getElem?_eq_getElem hi
  have go : ∀ {F : List Addr} {s : Sl}, s.fix = false → RSl κ H G (some (some v)) F s → (∀ a, a ∈ F → Fre G env a ∧ Nw H0 G0 env0 a) →
      ∃ G', Rep κ H G' (σ.set i (some v)) (env.set i s) ∧ Fr H0 G0 σ0 env0 H G' (σ.set i (some v)) (env.set i s) := fun {F s} nf hs hF => by
    have re := r.re (s := s) (F := F) (H' := H) (g' := G.g) (x := some v) hi r.sub (Same.refl _) hs (fun _ _ _ _ _ _ _ h => h) (fun j a w ow => (r.own ow).2) fun a m j t w e => (hF a m).1 j t e
    refine ⟨_, re, f.hk, f.gk, f.gn, fun a o e m => ?_, fun j t q e => ?_⟩
    · obtain ⟨j, t, e1, hm, m⟩ := m
      have m1 : a ∈ (G.put i F).fp j := m
      rcases set_look e1 with ⟨rfl, rfl⟩ | ⟨w, e2⟩
      · rw [put_at] at m1
        exact (hF a m1).2 o e
      · rw [put_ne w] at m1
        exact f.mm a o e ⟨j, t, e2, hm, m1⟩
    · rcases set_look e with ⟨rfl, rfl⟩ | ⟨w, e2⟩
      · rw [nf] at q; cases q
      · obtain ⟨s0, q1, q2, q3, q4⟩ := f.lk j t q e2
        refine ⟨s0, q1, q2, by rw [List.getElem?_set_ne w]; exact q3, fun y1 y2 => ?_⟩
        show (G.put i F).fp j = _
        rw [put_ne w]
        exact q4 y1 y2
  cases z with
  | sh d => exact go (F := []) (s := .sh d) rfl ⟨rfl, v, rfl, h⟩ fun a m => by cases m
  | ow l =>
    obtain ⟨a, xs, rfl, h2, h3, h4, h5, h6⟩ := h
    exact go (F := [a]) (s := .ow l) rfl ⟨_, rfl, .ls h2 h3 h4⟩ fun b m => by rw [List.mem_singleton.mp m]; exact ⟨h5, h6⟩
  | tr o =>
    obtain ⟨F, ro, h⟩ := h
    exact go (F := F) (s := .tr o) rfl ⟨_, rfl, ro⟩ h
/-! ### statements -/
def sNil : Ss := fun e => some (.nx e)
def sSeq (m n : Ss) : Ss := fun e => match m e with
  | some (.nx e1) => n e1
  | o => o
def sDrop (m : Sm Rs) : Ss := sbnd m fun _ e => some (.nx e)
def sAsg (i : Nat) (m : Sm Rs) : Ss := sbnd m fun r e => if i < e.length then some (.nx (e.set i r.sl)) else none
def sRet (m : Sm Rs) : Ss := sbnd m fun r _ => some (.rt r)
/-- .. where a thing was handed in to be changed -/
def sRetI (m : Sm Rs) : Ss := sbnd m fun r e => some (.rv r e)
def sRetV (i : Nat) : Ss := fun e => match e[i]? with
  | some (.sh d) => some (.rt (.sh d))
  | some (.ow l) => some (.rt (.ow l))
  | some (.tr o) => some (.rt (.tr o))
  | _ => none
def sRetN : Ss := fun _ => some (.rt (.sh .non))
def sRetNI : Ss := fun e => some (.rv (.sh .non) e)
def sIf (t : Sm Bool) (m n : Ss) : Ss := sbnd t fun b e => match b with
  | true => m e
  | false => n e
def sBrk : Ss := fun e => some (.bk e)
def sCnt : Ss := fun e => some (.ct e)
section
variable {X : Cx} {κ : Kx} {W : WX} {a b c e : Expr} {st : Stmt} {sts su : List Stmt} {m n : Ss} {mr : Sm Rs} {md : Sm D} {mt : Sm Bool} {pos pos' : Pos}
theorem s_nil : PSs X [] (tS κ W sNil) := PSs.imp pss_nil fun D σ H ⟨G, env, r, q⟩ => q σ H G r Fr.refl
theorem s_cons (h1 : PS X st (tS κ W m)) (h2 : PSs X sts (tS κ W n)) : PSs X (st :: sts) (tS κ W (sSeq m n)) := PSs.imp (pss_cons h1 h2) fun D σ H ⟨G, env, r, q⟩ => by
  refine ⟨G, env, r, ?_⟩
  unfold sSeq at q
  cases z : m env with
  | none => rw [z] at q; exact q
  | some o => cases o with
    | nx e1 =>
      rw [z] at q
      exact fun σ' H' G' r' f => ⟨G', e1, r', SPost.shift f q⟩
    | bk e1 => rw [z] at q; exact q
    | ct e1 => rw [z] at q; exact q
    | rt r1 => rw [z] at q; exact q
    | rv r1 e1 => rw [z] at q; exact q
    | ex x e1 => rw [z] at q; exact q
theorem s_one (h1 : PS X st (tS κ W m)) : PSs X [st] (tS κ W m) := pss_one h1
theorem s_asgI {i : Nat} {x : Str} (hN : X.N.Nodup) (hi : X.N[i]? = some x) (hx : Loc X.env.scope x) (h : PE X e (tI κ W (RV κ) mr)) (hs : swapsWith e (some (.Name x pos')) pos.line X.env = pure false := by rfl)
    (hf : X.fn x = true ∨ X.env.scope.names.lookup x = some .local := by first | exact .inl rfl | exact .inr rfl | assumption) : PS X (.Assign [.Name x pos'] e pos) (tS κ W (sAsg i mr)) := PS.imp (ps_set hN hi hx h hs hf) fun D σ H ⟨G, env, r, q⟩ => by
  refine ⟨G, env, r, ?_⟩
  unfold sAsg sbnd at q
  cases w : mr env with
  | none => rw [w] at q; exact q
  | some o => cases o with
    | ex x e1 =>
      rw [w] at q
      exact fun c d H' G' a b g => q c d σ H' G' a b g
    | ok z e1 =>
      rw [w] at q
      intro v H1 G1 r1 rv f1
      by_cases hl : i < e1.length
      · dsimp only at q
        rw [if_pos hl] at q
        obtain ⟨G2, r2, f2⟩ := put_all r1 hl rv f1
        exact q _ H1 G2 r2 f2
      · dsimp only at q
        rw [if_neg hl] at q; exact q.elim
theorem s_asg {i : Nat} {x : Str} (hN : X.N.Nodup) (hi : X.N[i]? = some x) (hx : Loc X.env.scope x) (h : PE X e (tX κ W (RV κ) mr)) (hs : swapsWith e (some (.Name x pos')) pos.line X.env = pure false := by rfl)
    (hf : X.fn x = true ∨ X.env.scope.names.lookup x = some .local := by first | exact .inl rfl | exact .inr rfl | assumption) : PS X (.Assign [.Name x pos'] e pos) (tS κ W (sAsg i mr)) := s_asgI hN hi hx (im h) hs hf
theorem rr_of {N : Addr → Prop} {H : Hp} {G : Gh} {σ : L2.St} {env : En} {v : V} {z : Rs} (rv : RV κ σ N H G env v z) : RR κ N H G v z := by
  cases z with
  | sh d => exact rv
  | ow l =>
    obtain ⟨a, xs, h1, h2, h3, h4, h5, h6⟩ := rv
    exact ⟨a, xs, h1, h2, h3, h4, h6⟩
  | tr o =>
    obtain ⟨F, h1, h2⟩ := rv
    exact ⟨F, h1, fun a m => (h2 a m).2⟩
theorem s_ret (h : PE X e (tX κ W (RV κ) mr)) : PS X (.Return (some e) pos) (tS κ W (sRet mr)) := PS.imp (ps_ret (im h)) fun D σ H ⟨G, env, r, q⟩ => by
  refine ⟨G, env, r, ?_⟩
  unfold sRet sbnd at q
  cases w : mr env with
  | none => rw [w] at q; exact q
  | some o => cases o with
    | ex x e1 =>
      rw [w] at q
      exact fun c d H' G' a b g => q c d σ H' G' a b g
    | ok z e1 =>
      rw [w] at q
      exact fun v H1 G1 r1 rv f1 => q v H1 G1 r1.sub (rr_of rv) ⟨f1.hk, f1.gk, f1.gn⟩
theorem s_retV {i : Nat} {x : Str} (h : PE X (.Name x pos') (tVar i)) : PS X (.Return (some (.Name x pos')) pos) (tS κ W (sRetV i)) := PS.imp (ps_ret h) fun D σ H ⟨G, env, r, q⟩ => by
  unfold sRetV at q
  have fr : FrR H G σ env H G := ⟨fun _ o h _ => ⟨o, h, fun _ => rfl⟩, Same.refl _, fun _ _ _ h _ => h⟩
  cases z : env[i]? with
  | none => rw [z] at q; exact q.elim
  | some s =>
    have rs := r.slot i s z
    rw [z] at q
    cases s with
    | un => exact q.elim
    | sh d =>
      obtain ⟨_, v, h1, h2⟩ := rs
      exact ⟨v, h1, q v H G r.sub h2 fr⟩
    | ow l =>
      obtain ⟨v, h1, ro⟩ := rs
      obtain ⟨a, xs, rfl, h0, h2, h3, h4⟩ := ro.ls_inv
      exact ⟨_, h1, q _ H G r.sub ⟨a, xs, rfl, h2, h3, h4, fun o _ => ⟨i, _, z, rfl, by rw [h0]; exact List.mem_singleton_self a⟩⟩ fr⟩
    | lk l => exact q.elim
    | bo l => exact q.elim
    | io o => exact q.elim
    | tr o =>
      obtain ⟨v, h1, ro⟩ := rs
      exact ⟨_, h1, q _ H G r.sub ⟨_, ro, fun a m o _ => ⟨i, _, z, rfl, m⟩⟩ fr⟩
theorem s_ifI (ht : PT X c (tI κ W RT mt)) (h1 : PSs X sts (tS κ W m)) (h2 : PSs X su (tS κ W n)) : PS X (.If c sts su pos) (tS κ W (sIf mt m n)) := PS.imp (ps_if ht h1 h2) fun D σ H ⟨G, env, r, q⟩ => sbind_post r q fun z e1 v H1 G1 _ r1 rv f1 q1 => by
  cases rv
  cases z with
  | true => exact ⟨G1, e1, r1, q1⟩
  | false => exact ⟨G1, e1, r1, q1⟩
theorem s_if (ht : PT X c (tX κ W RT mt)) (h1 : PSs X sts (tS κ W m)) (h2 : PSs X su (tS κ W n)) : PS X (.If c sts su pos) (tS κ W (sIf mt m n)) := s_ifI (im_t ht) h1 h2
end

/-! ### own things changed -/
section
variable {κ : Kx} {W : WX} {σ : L2.St} {H H' : Hp} {G : Gh} {env : En} {v : V}
/-- the own thing at slot i is another one from here on, with its own addresses and new ones -/
theorem Rep.chgG (r : Rep κ H G σ env) {i : Nat} {s s' : Sl} {o o' : O} {F : List Addr} {g' : Hp} (e : env[i]? = some s) (hm : s.mut = true) (t : s.th = some o) (t' : s'.th = some o') (hf : s'.fix = true → s'.was s) (hm' : s'.mut = true) (ea : σ[i]? = some (some v))
    (gk : Same G.g g') (sub : Sub κ g' H') (gn : ∀ a u, H a = some u → G.g a = none → a ∉ G.fp i → g' a = none)
    (h : RO κ H' g' v o' F) (hk : ∀ a u, H a = some u → a ∉ G.fp i → ∃ o', H' a = some o' ∧ (nt u → o' = u)) (hF : ∀ a, a ∈ F → a ∈ G.fp i ∨ H a = none) :
    Rep κ H' ⟨g', (G.put i F).fp⟩ σ (env.set i s') ∧ Fr H G σ env H' ⟨g', (G.put i F).fp⟩ σ (env.set i s') := by
  have hi : i < env.length := (List.getElem?_eq_some_iff.mp e).1
  have me : ∀ a, a ∈ G.fp i → Own G env i a := fun a m => ⟨s, o, e, t, m⟩
  have re := r.re (s := s') (F := F) (H' := H') (g' := g') (x := some v) hi sub gk (RSl.of t' rfl h) (fun j u a w e2 m o' h => by
    obtain ⟨z, k1, k2⟩ := hk a o' h fun m' => w (r.inj i j a u (me a m') e2 m)
    rw [k1, k2 (r.pl e2 m h).1]) (fun j a w ow => by
    obtain ⟨u, o2, e2, t2, m2⟩ := id ow
    obtain ⟨⟨z, hz⟩, g0⟩ := r.own ow
    exact gn a z hz g0 fun m' => w (r.inj i j a u (me a m') e2 m2)) fun a m j u w e2 m2 => by
    rcases hF a m with q | q
    · exact w (r.inj i j a u (me a q) e2 m2)
    · obtain ⟨z, hz⟩ := r.live e2 m2
      rw [q] at hz
      cases hz
  have fr := Fr.re (σ := σ) (H := H) (H' := H') (g' := g') (s := s') (F := F) (x := some v) (s0 := s) e (fun a u h n => hk a u h fun m => n ⟨i, s, e, hm, m⟩) gk (fun a u h g n => gn a u h g fun m => n ⟨i, s, e, hm, m⟩)
    (fun _ a u m h => by
      rcases hF a m with q | q
      · exact ⟨i, s, e, hm, q⟩
      · rw [q] at h; cases h)
    fun q => ⟨hf q, by rw [ea]; rfl, (List.getElem?_eq_some_iff.mp ea).1, hm'⟩
  rw [set_same ea] at re fr
  exact ⟨re, fr⟩
theorem Rep.chgO (r : Rep κ H G σ env) {i : Nat} {s s' : Sl} {o o' : O} {F : List Addr} (e : env[i]? = some s) (hm : s.mut = true) (t : s.th = some o) (t' : s'.th = some o') (hf : s'.fix = true → s'.was s) (hm' : s'.mut = true) (ea : σ[i]? = some (some v))
    (h : RO κ H' G v o' F) (hk : ∀ a u, H a = some u → a ∉ G.fp i → H' a = some u) (hF : ∀ a, a ∈ F → a ∈ G.fp i ∨ H a = none) :
    ∃ G', G'.g = G.g ∧ Rep κ H' G' σ (env.set i s') ∧ Fr H G σ env H' G' σ (env.set i s') := by
  have sub : Sub κ G.g H' := ⟨fun a u q => hk a u (r.sub a u q) fun m => (by rw [(r.own ⟨s, o, e, t, m⟩).2] at q; cases q), r.sub.n, tabs_of r.sub.t fun a u q np => hk a u q fun m => np (r.pl e m q)⟩
  obtain ⟨re, fr⟩ := r.chgG e hm t t' hf hm' ea (Same.refl _) sub (fun _ _ _ h _ => h) h (fun a u q m => ⟨u, hk a u q m, fun _ => rfl⟩) hF
  exact ⟨⟨G.g, (G.put i F).fp⟩, rfl, re, fr⟩
/-- the slot that holds an own list to be changed -/
def setL (s : Sl) (l : List D) : Sl := match s with
  | .io _ => .io (.ls l)
  | _ => .ow l
def getL : Sl → Option (List D)
  | .ow l => some l
  | .io (.ls l) => some l
  | _ => none
theorem getL_th {s : Sl} {l : List D} (h : getL s = some l) : s.th = some (.ls l) ∧ s.mut = true := by
  cases s with
  | ow k => cases h; exact ⟨rfl, rfl⟩
  | io o => cases o <;> cases h; exact ⟨rfl, rfl⟩
  | _ => cases h
theorem setL_th {s : Sl} {l : List D} : (setL s l).th = some (.ls l) ∧ (setL s l).mut = true := by
  cases s <;> exact ⟨rfl, rfl⟩
theorem setL_was {s : Sl} {l k : List D} (h : getL s = some k) : (setL s l).fix = true → (setL s l).was s := fun q => by
  cases s with
  | ow k => cases q
  | io o => exact ⟨_, rfl⟩
  | _ => cases h
theorem lst_at (r : Rep κ H G σ env) {i : Nat} {s : Sl} {l : List D} (e : env[i]? = some s) (h : getL s = some l) : ∃ a xs, σ[i]? = some (some (.ref a)) ∧ H a = some (.lst xs) ∧ RpA κ G xs l ∧ G.fp i = [a] ∧ G.g a = none := by
  obtain ⟨v, h1, ro⟩ := (r.slot i s e).th (getL_th h).1
  obtain ⟨a, xs, rfl, h0, h2, h3, h4⟩ := ro.ls_inv
  exact ⟨a, xs, h1, h2, h4, h0, h3⟩
/-- the own list at slot i holds something else from here on -/
theorem Rep.chg (r : Rep κ H G σ env) {i : Nat} {s : Sl} {l l' : List D} {a : Addr} {ys : List V} (e : env[i]? = some s) (hl : getL s = some l) (ea : σ[i]? = some (some (.ref a))) (h : RpA κ G ys l') :
    ∃ G', G'.g = G.g ∧ Rep κ (upd H a (.lst ys)) G' σ (env.set i (setL s l')) ∧ Fr H G σ env (upd H a (.lst ys)) G' σ (env.set i (setL s l')) := by
  obtain ⟨b, xs, h1, h2, h3, h4, h5⟩ := lst_at r e hl
  rw [ea] at h1
  cases h1
  refine r.chgO e (getL_th hl).2 (getL_th hl).1 setL_th.1 (setL_was hl) setL_th.2 ea (.ls (xs := ys) upd_same h5 h) (fun b u q m => ?_) fun b m => .inl (by rw [h4]; exact m)
  have n : b ≠ a := fun z => m (by rw [h4, z]; exact List.mem_singleton_self a)
  rw [upd_ne n]
  exact q
end
/-- an own list, unlocked, stands in slot i -/
def sOwn (i : Nat) (s : Ss) : Ss := fun e => match e[i]? with
  | some (.ow _) => s e
  | some (.io (.ls _)) => s e
  | _ => none
/-- the own list at slot i changed -/
def chL (i : Nat) (f : List D → Option (List D)) : Ss := fun e => match e[i]? with
  | some (.ow l) => match f l with
    | some k => some (.nx (e.set i (.ow k)))
    | none => none
  | some (.io (.ls l)) => match f l with
    | some k => some (.nx (e.set i (.io (.ls k))))
    | none => none
  | _ => none
/-- xs.append(e) -/
def sApp (i : Nat) (m : Sm D) : Ss := sOwn i (sbnd m fun d => chL i fun l => if l.length < szl then some (l ++ [d]) else none)
/-- xs.extend(e) -/
def sExt (i : Nat) (m : Sm D) : Ss := sOwn i (sbnd m fun d => match d with
  | .lst k => chL i fun l => if l.length + k.length ≤ szl then some (l ++ k) else none
  | _ => fun _ => none)
def opSetI (l : List D) (i : Int) (d : D) : Option (List D) := match ixN l.length i with
  | some j => some (l.set j d)
  | none => none
/-- xs[j] = e -/
def sSetI (i : Nat) (mj m : Sm D) : Ss := sbnd m fun d => sOwn i (sbnd mj fun j => match j with
  | .int z => chL i fun l => opSetI l z d
  | _ => fun _ => none)
theorem sOwn_of {κ : Kx} {W : WX} {σ : L2.St} {H : Hp} {G : Gh} {env : En} {i : Nat} {s : Ss} {D0 : Ends} (q : SPost κ W σ H G env (sOwn i s env) D0) : ∃ t l, env[i]? = some t ∧ getL t = some l ∧ SPost κ W σ H G env (s env) D0 := by
  unfold sOwn at q
  cases z : env[i]? with
  | none => rw [z] at q; exact q.elim
  | some o =>
    rw [z] at q
    cases o with
    | ow l => exact ⟨_, l, rfl, rfl, q⟩
    | io o => cases o with
      | ls l => exact ⟨_, l, rfl, rfl, q⟩
      | _ => exact q.elim
    | _ => exact q.elim
theorem chL_of {κ : Kx} {W : WX} {σ : L2.St} {H : Hp} {G : Gh} {env : En} {i : Nat} {f : List D → Option (List D)} {D0 : Ends} (q : SPost κ W σ H G env (chL i f env) D0) : ∃ t l k, env[i]? = some t ∧ getL t = some l ∧ f l = some k ∧ SPost κ W σ H G env (some (.nx (env.set i (setL t k)))) D0 := by
  unfold chL at q
  cases z : env[i]? with
  | none => rw [z] at q; exact q.elim
  | some o =>
    rw [z] at q
    cases o with
    | ow l =>
      dsimp only at q
      cases w : f l with
      | none => rw [w] at q; exact q.elim
      | some k => rw [w] at q; exact ⟨_, l, k, rfl, rfl, w, q⟩
    | io o => cases o with
      | ls l =>
        dsimp only at q
        cases w : f l with
        | none => rw [w] at q; exact q.elim
        | some k => rw [w] at q; exact ⟨_, l, k, rfl, rfl, w, q⟩
      | _ => exact q.elim
    | _ => exact q.elim
section
variable {X : Cx} {κ : Kx} {W : WX} {a b c e : Expr} {m : Sm D} {mj : Sm D} {pos pos' p2 : Pos}
/-- o.m(e) as a statement, o an own list's name: the reading of the method's call -/
theorem own_call {r : V → List V → Hp → VK → Prop} {R : Rl D V} {i : Nat} {f : D → Ss} {D0 : Ends} {σ : L2.St} {H : Hp} {G : Gh} {env : En} (rp : Rep κ H G σ env) (hq : SPost κ W σ H G env (sOwn i (sbnd m f) env) D0)
    (k : ∀ d e1 v a H1 G1, Rep κ H1 G1 σ e1 → R σ (Nw H G env) H1 G1 e1 v d → σ[i]? = some (some (.ref a)) → SPost κ W σ H1 G1 e1 (f d e1) D0 → r (.ref a) [v] H1 fun _ H2 => D0.nx σ H2) :
    tDrop (tBM κ.K "list" r (tVar i) (tCons (tI κ W R m) tNil)) D0 σ H := by
  obtain ⟨t0, l0, e0, g0, hq⟩ := sOwn_of hq
  obtain ⟨a, xs, h1, h2, h3, h4, h5⟩ := lst_at rp e0 g0
  refine ⟨_, h1, .inl ⟨rfl, xs, SqL.of h2⟩, ?_⟩
  exact sbind_post rp hq fun d e1 v H1 G1 em r1 rv f1 q1 => k d e1 v a H1 G1 r1 rv h1 q1
theorem s_appI {x : Str} {i : Nat} {apos cpos : Pos} (hK : X.K = κ.K) (hx : PE X (.Name x pos') (tVar i)) (he : PE X e (tI κ W (RP κ) m))
    (hs : swapsWith (.Call (.Attribute (.Name x pos') "append" apos) [e] [] cpos) none pos.line X.env = pure false := by rfl)
    (hbase : attributeBase (.Name x pos') "append" X.env (eval (.Name x pos') X.env) = eval (.Name x pos') X.env := by rfl)
    (hfew : ((backTo cpos (starEach [e] X.env)).all (fun x => !x.1) && (backToKw cpos (keywordEach [] X.env)).all (fun x => x.1.isSome)
      && decide (([e] : List Expr).length + ([] : List Keyword).length + (if ([] : List Keyword).isEmpty then 0 else 1) < 30)) = true := by rfl)
    (hline : (apos.endLine == cpos.line) = true := by rfl) (hst : starEach [e] X.env = (false, eval e X.env) :: starEach [] X.env := by rfl) (hplain : (backTo cpos (starEach [] X.env)).any (·.1) = false := by rfl) :
    PS X (.Expr (.Call (.Attribute (.Name x pos') "append" apos) [e] [] cpos) pos) (tS κ W (sApp i m)) :=
  PS.imp (ps_expr (pe_bm PySem.F.plainAttrs_list PySem.F.slot_list_append PySem.F.type_list_append mt_append hx (pa_cons he pa_nil hst) hbase hfew hline hst hplain) hs) fun D σ H ⟨G, env, r, q⟩ => by
    rw [hK]
    refine own_call r q fun d e1 v a H1 G1 r1 rv ha q1 => ?_
    obtain ⟨t, l, k, z, hl, hk, q1⟩ := chL_of q1
    by_cases hsz : l.length < szl
    · rw [if_pos hsz] at hk
      cases hk
      obtain ⟨b, ys, g1, g2, g3, _⟩ := lst_at r1 z hl
      rw [ha] at g1
      cases g1
      obtain ⟨G2, eg, rep, fr⟩ := r1.chg z hl ha (g3.append (.cons rv .nil))
      exact ⟨a, ys, v, rfl, rfl, g2, by rw [g3.length]; exact szl_lt (Nat.le_of_lt hsz), q1 σ _ G2 rep fr⟩
    · rw [if_neg hsz] at hk; cases hk
theorem s_app {x : Str} {i : Nat} {apos cpos : Pos} (hK : X.K = κ.K) (hx : PE X (.Name x pos') (tVar i)) (he : PE X e (tX κ W (RP κ) m))
    (hs : swapsWith (.Call (.Attribute (.Name x pos') "append" apos) [e] [] cpos) none pos.line X.env = pure false := by rfl)
    (hbase : attributeBase (.Name x pos') "append" X.env (eval (.Name x pos') X.env) = eval (.Name x pos') X.env := by rfl)
    (hfew : ((backTo cpos (starEach [e] X.env)).all (fun x => !x.1) && (backToKw cpos (keywordEach [] X.env)).all (fun x => x.1.isSome)
      && decide (([e] : List Expr).length + ([] : List Keyword).length + (if ([] : List Keyword).isEmpty then 0 else 1) < 30)) = true := by rfl)
    (hline : (apos.endLine == cpos.line) = true := by rfl) (hst : starEach [e] X.env = (false, eval e X.env) :: starEach [] X.env := by rfl) (hplain : (backTo cpos (starEach [] X.env)).any (·.1) = false := by rfl) :
    PS X (.Expr (.Call (.Attribute (.Name x pos') "append" apos) [e] [] cpos) pos) (tS κ W (sApp i m)) := s_appI hK hx (im he) hs hbase hfew hline hst hplain
end
/-! ### several names -/
def setAll : List Nat → List D → En → Option En
  | [], [], e => some e
  | i :: is, d :: ds, e => if i < e.length then setAll is ds (e.set i (.sh d)) else none
  | _, _, _ => none
def gNames : List Nat → TGs
  | [] => gNil
  | i :: is => gCons (gName i) (gNames is)
/-- a target's reading serves its function -/
def TgOk (κ : Kx) (g : TG) (f : D → En → Option En) : Prop := ∀ (v : V) (d : D) (σ : L2.St) (H : Hp) (G : Gh) (env e1 : En) (Q : L2.St → Hp → Prop), f d env = some e1 → Rep κ H G σ env → Rp κ G v d → (∀ σ1 G1, Rep κ H G1 σ1 e1 → Fr H G σ env H G1 σ1 e1 → Q σ1 H) → g v σ H Q
section
variable {κ : Kx} {W : WX} {X : Cx}
theorem rep_sh {H : Hp} {G : Gh} {σ : L2.St} {env : En} {i : Nat} {v : V} {d : D} (r : Rep κ H G σ env) (hi : i < env.length) (h : Rp κ G v d) : ∃ G', G'.g = G.g ∧ Rep κ H G' (σ.set i (some v)) (env.set i (.sh d)) ∧ Fr H G σ env H G' (σ.set i (some v)) (env.set i (.sh d)) := by
  have re := r.re (s := .sh d) (F := []) (H' := H) (g' := G.g) (x := some v) hi r.sub (Same.refl _) ⟨rfl, v, rfl, h⟩ (fun _ _ _ _ _ _ _ h => h) (fun j a w ow => (r.own ow).2) fun a m => by cases m
  have fr := Fr.re (σ := σ) (H := H) (H' := H) (g' := G.g) (s := .sh d) (F := []) (x := some v) (List.getElem?_eq_getElem hi) (fun _ o h _ => ⟨o, h, fun _ => rfl⟩) (Same.refl _) (fun _ _ _ h _ => h) (fun q => by cases q) fun q => by cases q
  exact ⟨⟨G.g, (G.put i []).fp⟩, rfl, re, fr⟩
def tgN (i : Nat) : D → En → Option En := fun d e => if i < e.length then some (e.set i (.sh d)) else none
theorem tg_name (i : Nat) : TgOk κ (gName i) (tgN i) := fun v d σ H G env e1 Q e r h q => by
  unfold tgN at e
  by_cases hi : i < env.length
  · rw [if_pos hi] at e
    cases e
    obtain ⟨G1, _, a, b⟩ := rep_sh r hi h
    exact q _ G1 a b
  · rw [if_neg hi] at e; cases e
def tgT (is : List Nat) : D → En → Option En := fun d e => match d with
  | .tup ds => setAll is ds e
  | _ => none
/-- target = value, any target -/
def sTg (f : D → En → Option En) (m : Sm D) : Ss := sbnd m fun d e => match f d e with
  | some e1 => some (.nx e1)
  | none => none
end

/-! ### loops -/
/-- an iterator gives these items, one after another -/
def Yields (κ : Kx) (J : It) (ds : List D) (H G : Hp) : Prop := ∀ i : Nat, (∀ d, ds[i]? = some d → J.go i H ∧ ∀ x H', J.yld i H x H' → (H' = H ∧ Rp κ G x d) ∨ ∃ (T : Addr) (xs : List V) (es : List D), H T = none ∧ H' = upd H T (.tup xs) ∧ x = .ref T ∧ d = .tup es ∧ RpA κ G xs es) ∧ (ds.length ≤ i → J.stop i H)
def RI (κ : Kx) : Rl (List D) It := fun _ _ H G env J ds => ∃ pr : Addr → Prop, (∀ a, pr a → ¬ Mt G env a) ∧ ∀ H' (G' : Hp), (∀ a o, pr a → H a = some o → nt o → H' a = some o) → Same G G' → Same G' H' → Yields κ J ds H' G'
instance {κ : Kx} : RlMono (RI κ) := ⟨fun _ q => q⟩
def forL (tg : D → En → Option En) (body : Ss) : List D → Ss
  | [], e => some (.nx e)
  | d :: ds, e => match tg d e with
    | none => none
    | some e1 => match body e1 with
      | some (.nx e2) => forL tg body ds e2
      | some (.ct e2) => forL tg body ds e2
      | some (.bk e2) => some (.nx e2)
      | o => o
def sFor (mi : Sm (List D)) (tg : D → En → Option En) (body : Ss) : Ss := sbnd mi fun ds => forL tg body ds
section
variable {X : Cx} {κ : Kx} {W : WX}
theorem s_for {tgt iter : Expr} {sts : List Stmt} {mi : Sm (List D)} {g : TG} {f : D → En → Option En} {m : Ss} {pos : Pos} (hp : PassesOwn (model X.prog X.w) X.A X.env X.xe) (hc : X.calm = true) (hi : PI X tgt iter (tX κ W (RI κ) mi)) (hg : PG X tgt g) (hf : TgOk κ g f) (hb : PSs X sts (tS κ W m))
    (hs : ∀ x, foldedSetIterable iter X.env x = pure x := by intro _; rfl) : PS X (.For tgt iter sts [] pos) (tS κ W (sFor mi f m)) := PS.imp (ps_for hp hc hi hg hb hs) fun D σ H ⟨G, env, r, q⟩ => by
  refine tI.pu (sbind_post r q fun ds e1 J H1 G1 em r1 rv f1 q1 => ?_)
  obtain ⟨pr, hpr, yl⟩ := rv
  refine ⟨fun i k σ' H' => k = ds.length - i ∧ i ≤ ds.length ∧ ∃ G' env', Rep κ H' G' σ' env' ∧ Fr H1 G1 σ e1 H' G' σ' env' ∧ SPost κ W σ' H' G' env' (forL f m (ds.drop i) env') D, ⟨ds.length, by simp, Nat.zero_le _, G1, e1, r1, Fr.refl, q1⟩, ?_⟩
  rintro i k σ2 H2 ⟨rfl, hi2, G2, env2, r2, fr2, q2⟩
  have y := yl H2 G2 (fun a o pa e n => fr2.at e (hpr a pa)) fr2.gk r2.sub i
  by_cases hlt : i < ds.length
  · right
    have ed : ds[i]? = some ds[i] := List.getElem?_eq_getElem hlt
    have dr : ds.drop i = ds[i] :: ds.drop (i + 1) := (List.drop_eq_getElem_cons hlt)
    obtain ⟨go, yy⟩ := y.1 _ ed
    refine ⟨go, fun σ' H' => ∃ G' env', Rep κ H' G' σ' env' ∧ Fr H1 G1 σ e1 H' G' σ' env' ∧ SPost κ W σ' H' G' env' (forL f m (ds.drop (i + 1)) env') D, fun σ' H' ⟨G', env', a, b, c⟩ => ⟨ds.length - (i + 1), by omega, rfl, hlt, G', env', a, b, c⟩, ?_⟩
    rw [dr] at q2
    dsimp only [forL] at q2
    intro x H3 hy
    cases z : f ds[i] env2 with
    | none => rw [z] at q2; exact q2.elim
    | some e3 =>
      rw [z] at q2
      dsimp only at q2
      -- the item stands in G3
      have item : ∃ G3 : Gh, Rep κ H3 G3 σ2 env2 ∧ Fr H2 G2 σ2 env2 H3 G3 σ2 env2 ∧ Rp κ G3 x ds[i] := by
        rcases yy x H3 hy with ⟨rfl, rx⟩ | ⟨T, xs, es, hT, rfl, rfl, e4, rx⟩
        · exact ⟨G2, r2, Fr.refl, rx⟩
        · have st := new_sh (o := .tup xs) r2 hT
          refine ⟨G2.up T (.tup xs), st.rep, st.fr, ?_⟩
          rw [e4]
          exact .tup upd_same (rx.mono (same_new (Same.none r2.sub hT)))
      obtain ⟨G3, r3, fr3, rx⟩ := item
      refine hf x ds[i] σ2 H3 G3 env2 e3 _ z r3 rx fun σ4 G4 r4 fr4 => ?_
      have frA := fr3.trans fr4
      refine ⟨G4, e3, r4, ?_⟩
      have q3 := SPost.shift frA q2
      cases w : m e3 with
      | none => rw [w] at q3; exact q3
      | some o => cases o with
        | nx e5 =>
          rw [w] at q3
          exact fun σ5 H5 G5 r5 fr5 => ⟨G5, e5, r5, (fr2.trans frA).trans fr5, SPost.shift fr5 q3⟩
        | ct e5 =>
          rw [w] at q3
          exact fun σ5 H5 G5 r5 fr5 => ⟨G5, e5, r5, (fr2.trans frA).trans fr5, SPost.shift fr5 q3⟩
        | bk e5 => rw [w] at q3; exact q3
        | rt r5 => rw [w] at q3; exact q3
        | rv r5 e5 => rw [w] at q3; exact q3
        | ex x5 e5 => rw [w] at q3; exact q3
  · left
    have e : i = ds.length := by omega
    subst e
    refine ⟨y.2 (Nat.le_refl _), ?_⟩
    rw [List.drop_length] at q2
    exact q2 σ2 H2 G2 r2 Fr.refl
/-- while: at most n turns -/
def whL (n : Nat) (t : Sm Bool) (body : Ss) : Ss := match n with
  | 0 => fun _ => none
  | n + 1 => sbnd t fun b e => match b with
    | false => some (.nx e)
    | true => match body e with
      | some (.nx e2) => whL n t body e2
      | some (.ct e2) => whL n t body e2
      | some (.bk e2) => some (.nx e2)
      | o => o
end
/-! ### what is walked -/
/-- a list that stays while it is walked -/
def RL (κ : Kx) : Rl (List D) V := fun _ _ H G env v l => ∃ a xs, v = .ref a ∧ H a = some (.lst xs) ∧ RpA κ G xs l ∧ (G.g a = some (.lst xs) ∨ ¬ Mt G env a)
instance {κ : Kx} : RlMono (RL κ) := ⟨fun _ q => q⟩
def RLs (κ : Kx) : Rl (List D) (List V) := fun σ N H G env vs l => ∃ v, vs = [v] ∧ RL κ σ N H G env v l
instance {κ : Kx} : RlMono (RLs κ) := ⟨fun _ q => q⟩
def eIt (i : Nat) : Sm (List D) := fun env => match env[i]? with
  | some (.sh (.lst l)) => some (.ok l env)
  | some (.lk l) => some (.ok l env)
  | some (.bo l) => some (.ok l env)
  | _ => none
def fIt (m : Sm D) : Sm (List D) := bnd m fun d e => match d with
  | .lst l => some (.ok l e)
  | _ => none
section
variable {X : Cx} {κ : Kx} {W : WX} {a b e tg : Expr} {mi mj : Sm (List D)} {m : Sm D} {ms : Sm (List D)} {pos p : Pos}
theorem l_name {i : Nat} {x : Str} (h : PE X (.Name x pos) (tVar i)) : PE X (.Name x pos) (tX κ W (RL κ) (eIt i)) := PE.imp h fun σ H Q ⟨G, env, r, q⟩ => by
  unfold eIt at q
  cases z : env[i]? with
  | none => rw [z] at q; exact q.elim
  | some s =>
    have rs := r.slot i s z
    rw [z] at q
    cases s with
    | sh d =>
      cases d with
      | lst l =>
        obtain ⟨_, v, h1, h2⟩ := rs
        cases h2 with
        | lst h3 h4 => exact ⟨_, h1, q _ H G r ⟨_, _, rfl, r.sub _ _ h3, h4, .inl h3⟩ (Grw.refl _) Fr.refl⟩
      | _ => exact q.elim
    | lk l =>
      obtain ⟨v, h1, ro⟩ := rs
      obtain ⟨c, xs, rfl, h0, h2, h3, h4⟩ := ro.ls_inv
      refine ⟨_, h1, q _ H G r ⟨c, xs, rfl, h2, h4, .inr fun mt => ?_⟩ (Grw.refl _) Fr.refl⟩
      obtain ⟨j, t, e2, hm, m⟩ := mt
      have w := r.inj i j c t ⟨_, _, z, rfl, by rw [h0]; exact List.mem_singleton_self c⟩ e2 m
      subst w
      rw [z] at e2
      cases e2
      cases hm
    | bo l =>
      obtain ⟨c, xs, h1, h2, h4, h0⟩ := rs
      refine ⟨_, h1, q _ H G r ⟨c, xs, rfl, h2, h4, .inr fun mt => ?_⟩ (Grw.refl _) Fr.refl⟩
      obtain ⟨j, t, e2, hm, m⟩ := mt
      obtain ⟨o, ht⟩ := mut_th hm
      have w := r.inj j i c _ ⟨t, o, e2, ht, m⟩ z (by rw [h0]; exact List.mem_singleton_self c)
      subst w
      rw [z] at e2
      cases e2
      cases hm
    | _ => exact q.elim
theorem l_of (h : PE X e (tX κ W (RP κ) m)) : PE X e (tX κ W (RL κ) (fIt m)) := PE.imp h fun σ H Q ⟨G, env, r, q⟩ => bind_post r q fun d e1 v H1 G1 em r1 rv s1 f1 q1 => by
  cases d with
  | lst l =>
    cases rv with
    | lst h3 h4 => exact q1 _ H1 G1 r1 ⟨_, _, rfl, r1.sub _ _ h3, h4, .inl h3⟩ (Grw.refl _) Fr.refl
  | _ => exact q1.elim
/-- the items of a list that stays -/
theorem list_yields {J : It} {σ : L2.St} {N : Addr → Prop} {H : Hp} {G : Gh} {env : En} {v : V} {l ds : List D} (r : Rep κ H G σ env) (h : RL κ σ N H G env v l)
    (k : ∀ a xs, v = .ref a → ∀ H' (G' : Hp), H' a = some (.lst xs) → RpA κ G' xs l → Yields κ J ds H' G') : RI κ σ N H G env J ds := by
  obtain ⟨a, xs, rfl, h1, h2, h3⟩ := h
  refine ⟨fun b => b = a ∧ ¬ Mt G env a, fun b hb => hb.1 ▸ hb.2, fun H' G' hp sg sh => k a xs rfl H' G' ?_ (h2.mono sg)⟩
  rcases h3 with h3 | h3
  · exact sh _ _ (sg _ _ h3)
  · exact hp a _ ⟨rfl, h3⟩ h1 fun _ z => nomatch z
theorem i_list (h : PE X e (tX κ W (RL κ) mi)) : PI X tg e (tX κ W (RI κ) mi) := ⟨fun pins s σ H R I ⟨G, env, r, q⟩ => (pi_list h).run pins s σ H R I ⟨G, env, r, by
  cases z : mi env with
  | none => rw [z] at q; exact q
  | some o => cases o with
    | ex x e1 => rw [z] at q; exact q
    | ok l e1 =>
      rw [z] at q
      intro v H1 G1 r1 rv s1 f1
      obtain ⟨a, xs, rfl, h1, h2, h3⟩ := id rv
      refine ⟨a, rfl, ⟨xs, SqL.of h1⟩, q _ H1 G1 r1 (list_yields r1 rv fun a' ys ea H' G' hl ha i => ?_) s1 f1⟩
      cases ea
      refine ⟨fun d hd => ?_, fun hi => ⟨ys, SqL.of hl, by rw [ha.length]; exact hi⟩⟩
      obtain ⟨x, hx, rx⟩ := ha.getD hd
      exact ⟨⟨ys, x, SqL.of hl, hx⟩, fun y H2 ⟨e2, hy⟩ => .inl ⟨e2, by
        have := hy ys (SqL.of hl)
        rw [hx] at this
        cases this
        exact rx⟩⟩⟩⟩
/-- the signs of a text -/
def fSg (m : Sm D) : Sm (List D) := bnd m fun d e => match d with
  | .str w => some (.ok (w.map fun c => .str [c]) e)
  | _ => none
theorem i_str (h : PE X e (tX κ W (RB κ) m)) : PI X tg e (tX κ W (RI κ) (fSg m)) := ⟨fun pins s σ H R I ⟨G, env, r, q⟩ => (pi_str h).run pins s σ H R I (bind_post r q fun d e1 v H1 G1 em r1 rv s1 f1 q1 => by
  cases d with
  | str w =>
    refine ⟨S w, RBq.str rv, q1 _ H1 G1 r1 ⟨fun _ => False, fun _ z => z.elim, fun H' G' _ _ _ i => ?_⟩ (Grw.refl _) Fr.refl⟩
    have ez : (S w).cps.size = w.length := S_len w
    refine ⟨fun d hd => ?_, fun hi => ?_⟩
    · rw [List.getElem?_map] at hd
      cases hw : w[i]? with
      | none => rw [hw] at hd; cases hd
      | some c =>
        rw [hw] at hd
        cases hd
        have hi : i < w.length := (List.getElem?_eq_some_iff.mp hw).1
        refine ⟨show i < (S w).cps.size by rw [ez]; exact hi, fun y H2 ⟨e2, c', hc, ey⟩ => .inl ⟨e2, ?_⟩⟩
        have hc' : w[i]? = some c' := by
          have : (S w).cps[i]? = w[i]? := by simp [S]
          rw [← this]; exact hc
        rw [hw] at hc'
        cases hc'
        rw [ey]
        exact .str [c]
    · show (S w).cps.size ≤ i
      rw [ez]
      simpa using hi
  | _ => exact q1.elim)⟩
/-- a tuple's items -/
def fTp (m : Sm D) : Sm (List D) := bnd m fun d e => match d with
  | .tup l => some (.ok l e)
  | _ => none
theorem i_tup (h : PE X e (tX κ W (RP κ) m)) : PI X tg e (tX κ W (RI κ) (fTp m)) := ⟨fun pins s σ H R I ⟨G, env, r, q⟩ => (pi_tup h).run pins s σ H R I (bind_post r q fun d e1 v H1 G1 em r1 rv s1 f1 q1 => by
  cases d with
  | tup l =>
    cases rv with
    | tup h3 h4 =>
      rename_i a xs
      refine ⟨a, rfl, ⟨xs, SqT.of (r1.sub _ _ h3)⟩, q1 _ H1 G1 r1 ⟨fun _ => False, fun _ z => z.elim, fun H' G' _ sg sh i => ?_⟩ (Grw.refl _) Fr.refl⟩
      have hl := SqT.of (K := X.K) (sh _ _ (sg _ _ h3))
      have ha := h4.mono sg
      refine ⟨fun d hd => ?_, fun hi => ⟨xs, hl, by rw [ha.length]; exact hi⟩⟩
      obtain ⟨x, hx, rx⟩ := ha.getD hd
      exact ⟨⟨xs, x, hl, hx⟩, fun y H2 ⟨e2, hy⟩ => .inl ⟨e2, by
        have := hy xs hl
        rw [hx] at this
        cases this
        exact rx⟩⟩
  | _ => exact q1.elim)⟩
def rng (lo : Int) (n : Nat) : List D := (List.range n).map fun (k : Nat) => D.int (lo + (k : Int))
def fRg1 (m : Sm (List D)) : Sm (List D) := bnd m fun ds e => match ds with
  | [.int j] => if j ≤ 1000000 ∧ -1000000 ≤ j then some (.ok (rng 0 j.toNat) e) else none
  | _ => none
def fRg2 (m : Sm (List D)) : Sm (List D) := bnd m fun ds e => match ds with
  | [.int i, .int j] => if (j ≤ 1000000 ∧ -1000000 ≤ j) ∧ i ≤ 1000000 ∧ -1000000 ≤ i then some (.ok (rng i (j - i).toNat) e) else none
  | _ => none
theorem rng_yields {lo : Int} {n : Nat} {σ : L2.St} {N : Addr → Prop} {H : Hp} {G : Gh} {env : En} : RI κ σ N H G env (Itr lo n) (rng lo n) := by
  refine ⟨fun _ => False, fun _ z => z.elim, fun H' G' _ _ _ i => ⟨fun d hd => ?_, fun hi => ?_⟩⟩
  · unfold rng at hd
    rw [List.getElem?_map] at hd
    cases hw : (List.range n)[i]? with
    | none => rw [hw] at hd; cases hd
    | some k =>
      rw [hw] at hd
      cases hd
      obtain ⟨hi, ek⟩ := List.getElem?_eq_some_iff.mp hw
      rw [List.getElem_range] at ek
      subst ek
      exact ⟨show i < n by simpa using hi, fun y H2 ⟨e2, ey⟩ => .inl ⟨e2, by rw [ey]; exact .int _⟩⟩
  · show n ≤ i
    unfold rng at hi
    simpa using hi
theorem i_rg1 {ml : List Bool} (hml : ml = [true]) (hg : Gl X "range") (hm : X.mg "range" = none) (h : PA X [a] (tX κ W (RA κ ml) ms)) (hs : starEach [a] X.env = [(false, eval a X.env)] := by rfl) : PI X tg (.Call (.Name "range" p) [a] [] pos) (tX κ W (RI κ) (fRg1 ms)) := ⟨fun pins s σ H R I ⟨G, env, r, q⟩ => (pi_range1 hg hm h hs).run pins s σ H R I (bind_post r q fun d e1 v H1 G1 em r1 rv s1 f1 q1 => by
  subst hml
  cases d with
  | nil => exact q1.elim
  | cons d t =>
    cases t with
    | cons _ _ => cases d <;> exact q1.elim
    | nil =>
      obtain ⟨u, rfl, ru⟩ := RBs.one rv
      cases d with
      | int j =>
        dsimp only at q1
        by_cases hj : j ≤ 1000000 ∧ -1000000 ≤ j
        · rw [if_pos hj] at q1
          exact ⟨j, by rw [ru.int], by omega, by omega, q1 _ H1 G1 r1 rng_yields (Grw.refl _) Fr.refl⟩
        · rw [if_neg hj] at q1; exact q1.elim
      | _ => exact q1.elim)⟩
/-- number and item -/
def enumL (l : List D) : List D := (l.zipIdx).map fun p => .tup [.int (p.2 : Int), p.1]
def fEn (m : Sm (List D)) : Sm (List D) := bnd m fun l e => some (.ok (enumL l) e)
def fRev (m : Sm (List D)) : Sm (List D) := bnd m fun l e => some (.ok l.reverse e)
end
/-! ### a loop over an own list locks it -/
def unlk (i : Nat) (e : En) : En := match e[i]? with
  | some (.lk l) => e.set i (.ow l)
  | _ => e
def sLock (i : Nat) (s : Ss) : Ss := fun e => match e[i]? with
  | some (.ow l) => match s (e.set i (.lk l)) with
    | some (.nx e1) => some (.nx (unlk i e1))
    | some (.bk e1) => some (.bk (unlk i e1))
    | some (.ct e1) => some (.ct (unlk i e1))
    | some (.ex x e1) => some (.ex x (unlk i e1))
    | some (.rv r e1) => some (.rv r (unlk i e1))
    | o => o
  | _ => s e
section
variable {X : Cx} {κ : Kx} {W : WX} {H H' : Hp} {G G' : Gh} {σ σ' : L2.St} {env env' : En} {i : Nat} {l : List D}
theorem Rep.swap {s t : Sl} (r : Rep κ H G σ env) (e : env[i]? = some s) {o : O} (hs : s.th = some o) (ht : t.th = some o) : Rep κ H G σ (env.set i t) := by
  have back : ∀ {j : Nat} {a : Addr}, Own G (env.set i t) j a → Own G env j a := fun {j a} ⟨u, o', e', t', m⟩ => by
    rcases set_look e' with ⟨rfl, rfl⟩ | ⟨w, e2⟩
    · exact ⟨s, o, e, hs, m⟩
    · exact ⟨u, o', e2, t', m⟩
  refine ⟨r.sub, by rw [List.length_set]; exact r.len, fun j u q => ?_, fun j k a u ow q m => ?_⟩
  · rcases set_look q with ⟨rfl, rfl⟩ | ⟨w, e2⟩
    · obtain ⟨x, h1, h2⟩ := (r.slot j s e).th hs
      exact .of ht h1 h2
    · exact r.slot j u e2
  · rcases set_look q with ⟨rfl, rfl⟩ | ⟨w, e2⟩
    · exact r.inj j k a s (back ow) e m
    · exact r.inj j k a u (back ow) e2 m
theorem Rep.locked (r : Rep κ H G σ env) (e : env[i]? = some (.ow l)) : Rep κ H G σ (env.set i (.lk l)) := r.swap e rfl rfl
theorem lock_mt {a : Addr} (m : Mt G (env.set i (.lk l)) a) : Mt G env a := by
  obtain ⟨j, s, e, h, m⟩ := m
  rcases set_look e with ⟨rfl, rfl⟩ | ⟨w, e2⟩
  · cases h
  · exact ⟨j, s, e2, h, m⟩
theorem unlk_cases : (∃ l, env[i]? = some (.lk l) ∧ unlk i env = env.set i (.ow l)) ∨ unlk i env = env := by
  unfold unlk
  split
  · rename_i l e; exact .inl ⟨l, e, rfl⟩
  · exact .inr rfl
theorem Rep.unlocked (r : Rep κ H G σ env) : Rep κ H G σ (unlk i env) := by
  rcases unlk_cases (i := i) (env := env) with ⟨l, e, q⟩ | q
  · rw [q]; exact r.swap e rfl rfl
  · rw [q]; exact r
theorem Fr.unlocked (e : env[i]? = some (.ow l)) (f : Fr H G σ (env.set i (.lk l)) H' G' σ' env') : Fr H G σ env H' G' σ' (unlk i env') where
  hk := fun a o h n => f.hk a o h fun m => n (lock_mt m)
  gk := f.gk
  gn := fun a o h g n => f.gn a o h g fun m => n (lock_mt m)
  mm := fun a o h m => by
    have hi : i < env.length := (List.getElem?_eq_some_iff.mp e).1
    rcases unlk_cases (i := i) (env := env') with ⟨l', e3, q⟩ | q
    · rw [q] at m
      obtain ⟨j, s, e1, hm, m⟩ := m
      rcases set_look e1 with ⟨rfl, rfl⟩ | ⟨w, e2⟩
      · obtain ⟨s0, h0, w0, _, ef⟩ := f.lk j (.lk l') rfl e3
        have w0 : s0 = .lk l' := w0
        refine ⟨j, _, e, rfl, ?_⟩
        rw [← ef w0 rfl]
        exact m
      · exact lock_mt (f.mm a o h ⟨j, s, e2, hm, m⟩)
    · rw [q] at m
      exact lock_mt (f.mm a o h m)
  lk := fun j t hf q => by
    have hi : i < env.length := (List.getElem?_eq_some_iff.mp e).1
    have q' : env'[j]? = some t ∧ i ≠ j := by
      rcases unlk_cases (i := i) (env := env') with ⟨l', e3, z⟩ | z
      · rw [z] at q
        rcases set_look q with ⟨rfl, rfl⟩ | ⟨w, e2⟩
        · cases hf
        · exact ⟨e2, w⟩
      · rw [z] at q
        refine ⟨q, fun w => ?_⟩
        subst w
        obtain ⟨s0, h0, w0, _⟩ := f.lk i t hf q
        rw [List.getElem?_set_self hi] at h0
        cases h0
        cases t with
        | lk l' =>
          have z2 : unlk i env' = env'.set i (.ow l') := by unfold unlk; rw [q]
          rw [z2] at z
          have : (env'.set i (.ow l'))[i]? = some (.ow l') := List.getElem?_set_self (List.getElem?_eq_some_iff.mp q).1
          rw [z, q] at this
          cases this
        | io o => obtain ⟨o', w0⟩ := w0; cases w0
        | bo l' => cases w0
        | _ => cases hf
    obtain ⟨s0, h0, w0, es, ef⟩ := f.lk j t hf q'.1
    rw [List.getElem?_set_ne q'.2] at h0
    exact ⟨s0, h0, w0, es, ef⟩
theorem unlk_fre {a : Addr} (f : Fre G env a) : Fre G (unlk i env) a := fun j s e m => by
  rcases unlk_cases (i := i) (env := env) with ⟨l', e3, q⟩ | q
  · rw [q] at e
    rcases set_look e with ⟨rfl, rfl⟩ | ⟨w, e2⟩
    · exact f j _ e3 m
    · exact f j s e2 m
  · rw [q] at e
    exact f j s e m
theorem lock_nw {a : Addr} {l : List D} (n : Nw H G (env.set i (.lk l)) a) : Nw H G env a := fun o h => lock_mt (n o h)
theorem rv_unlk {N N' : Addr → Prop} {v : V} {z : Rs} (h : ∀ c, N c → N' c) (rv : RV κ σ N H G env v z) : RV κ σ N' H G (unlk i env) v z := by
  cases z with
  | sh d => exact rv
  | ow l' =>
    obtain ⟨a, xs, h1, h2, h3, h4, h5, h6⟩ := rv
    exact ⟨a, xs, h1, h2, h3, h4, unlk_fre h5, h _ h6⟩
  | tr o =>
    obtain ⟨F, h1, h2⟩ := rv
    exact ⟨F, h1, fun a m => ⟨unlk_fre (h2 a m).1, h _ (h2 a m).2⟩⟩
theorem s_lock {st : Stmt} {m : Ss} {i : Nat} (h : PS X st (tS κ W m)) : PS X st (tS κ W (sLock i m)) := PS.imp h fun D σ H ⟨G, env, r, q⟩ => by
  unfold sLock at q
  split at q
  · rename_i l e
    refine ⟨G, _, r.locked e, ?_⟩
    cases w : m (env.set i (.lk l)) with
    | none => rw [w] at q; exact q
    | some o => cases o with
      | nx e1 => rw [w] at q; exact fun σ' H' G' r' f => q σ' H' G' r'.unlocked (f.unlocked e)
      | bk e1 => rw [w] at q; exact fun σ' H' G' r' f => q σ' H' G' r'.unlocked (f.unlocked e)
      | ct e1 => rw [w] at q; exact fun σ' H' G' r' f => q σ' H' G' r'.unlocked (f.unlocked e)
      | ex x e1 => rw [w] at q; exact fun c d σ' H' G' r' xr f => q c d σ' H' G' r'.unlocked xr (f.unlocked e)
      | rt z => rw [w] at q; exact fun v H' G' s rr f => q v H' G' s (rr.mono fun c n => lock_nw n) ⟨fun a o h n => f.hk a o h fun m => n (lock_mt m), f.gk, fun a o h g n => f.gn a o h g fun m => n (lock_mt m)⟩
      | rv z e1 => rw [w] at q; exact fun v σ' H' G' r' rv f => q v σ' H' G' r'.unlocked (rv_unlk (fun c n => lock_nw n) rv) (f.unlocked e)
  · exact ⟨G, env, r, q⟩
end

/-! ### methods of texts -/
def fM1 (f : List Nat → D → Option Rs) (mo me : Sm D) : Sm Rs := bnd mo fun x => match x with
  | .str w => bnd me fun y e => match f w y with
    | some z => some (.ok z e)
    | none => none
  | _ => fun _ => none
section
variable {X : Cx} {κ : Kx} {W : WX} {o e e2 : Expr} {mo me me2 : Sm D} {pos apos : Pos}
/-- a text's method, one argument -/
theorem v_m1 {id : String} {name : Str} {r : V → List V → Hp → VK → Prop} {f : List Nat → D → Option Rs} (slot : Slot "str" name id) (ty : typeOf (.builtin id) = pure (.type "method_descriptor")) (rule : MtR X id r) (hs : ∀ (W : WX) (σ : L2.St) (w : List Nat) (y : V) (dy : D) (z : Rs) (H : Hp) (G : Gh) (env : En) (Q : VK), f w dy = some z → Rep κ H G σ env → RBq κ H G y dy → EPost κ W (RV κ) σ H G env (some (.ok z env)) Q → r (.str (S w)) [y] H Q)
    (ho : PE X o (tX κ W (RB κ) mo)) (he : PE X e (tX κ W (RB κ) me)) (hst : starEach [e] X.env = [(false, eval e X.env)] := by rfl) (hbase : attributeBase o name X.env (eval o X.env) = eval o X.env := by rfl) (hline : (apos.endLine == pos.line) = true := by rfl) :
    PE X (.Call (.Attribute o name apos) [e] [] pos) (tX κ W (RV κ) (fM1 f mo me)) := PE.imp (pe_m1 slot ty rule ho he hst hbase hline) fun σ H Q ⟨G, env, rp, q⟩ => by
  refine bind_post rp q fun dx e1 x H1 G1 _ rp1 rx s1 f1 q1 => ?_
  cases dx with
  | str w =>
    refine ⟨⟨S w, RBq.str rx⟩, ?_⟩
    refine bind_post rp1 q1 fun dy e2 y H2 G2 _ rp2 ry s2 f2 q3 => ?_
    cases z : f w dy with
    | none => rw [z] at q3; exact q3.elim
    | some u =>
      rw [z] at q3
      rw [RBq.str rx]
      exact hs W σ w y dy u H2 G2 e2 Q z rp2 ry q3
  | _ => exact q1.elim
end
def opFind : List Nat → D → Option Rs
  | a, .str b => some (.sh (.int (Txt.find (S a) (S b))))
  | _, _ => none
def opStarts : List Nat → D → Option Rs
  | a, .str b => some (.sh (.bl (Txt.startswith (S a) (S b))))
  | _, _ => none
def opSplit : List Nat → D → Option Rs
  | a, .str b => if b.length ≠ 0 ∧ a.length ≤ szl then some (.ow ((Txt.split (S a) (S b)).map fun x => .str x.cps.toList)) else none
  | _, _ => none
def opPart : List Nat → D → Option Rs
  | a, .str b => if b.length ≠ 0 ∧ a.length ≤ szl then some (.sh (.tup [.str (Txt.partition (S a) (S b)).1.cps.toList, .str (Txt.partition (S a) (S b)).2.1.cps.toList, .str (Txt.partition (S a) (S b)).2.2.cps.toList])) else none
  | _, _ => none
def allStrs : List D → Option (List (List Nat))
  | [] => some []
  | .str w :: r => match allStrs r with
    | some l => some (w :: l)
    | none => none
  | _ :: _ => none
def opJoin : List Nat → D → Option Rs
  | a, .lst l => match allStrs l with
    | some ws => if (ws.map List.length).sum + ws.length * a.length ≤ szl then some (.sh (.str (Txt.join (S a) (ws.map S)).cps.toList)) else none
    | none => none
  | _, _ => none
section
variable {X : Cx} {κ : Kx} {W : WX} {o e e2 : Expr} {mo me me2 : Sm D} {pos apos : Pos}
theorem v_find (ho : PE X o (tX κ W (RB κ) mo)) (he : PE X e (tX κ W (RB κ) me)) (hst : starEach [e] X.env = [(false, eval e X.env)] := by rfl) (hbase : attributeBase o "find" X.env (eval o X.env) = eval o X.env := by rfl) (hline : (apos.endLine == pos.line) = true := by rfl) :
    PE X (.Call (.Attribute o "find" apos) [e] [] pos) (tX κ W (RV κ) (fM1 opFind mo me)) := v_m1 PySem.F.slot_str_find PySem.F.type_str_find mt_find (fun W σ w y dy z H G env Q e r ry q => by
  cases dy <;> try (cases e; done)
  cases e
  exact ⟨_, _, rfl, by rw [ry.str], post_sh r (.int _) q⟩) ho he hst hbase hline
end
/-! ### kinds -/
/-- isinstance(x, int) and its like -/
inductive Kd where
  | int | bool | str | list | tuple
def Kd.nm : Kd → String
  | .int => "int" | .bool => "bool" | .str => "str" | .list => "list" | .tuple => "tuple"
def isKd : D → Kd → Option Bool
  | .non, _ => some false
  | .bl _, .int => some true
  | .bl _, .bool => some true
  | .bl _, _ => some false
  | .int _, .int => some true
  | .int _, _ => some false
  | .str _, .str => some true
  | .str _, _ => some false
  | .lst _, .list => some true
  | .lst _, _ => some false
  | .tup _, .tuple => some true
  | .tup _, _ => some false
  | _, _ => none
def fIsi (m : Sm D) (k : Kd) : Sm D := bnd m fun d e => match isKd d k with
  | some b => some (.ok (.bl b) e)
  | none => none
theorem kd_all : ∀ k : Kd, (kitB "NoneType" k.nm = some false) ∧ (kitB "bool" k.nm = isKd (.bl true) k) ∧ (kitB "int" k.nm = isKd (.int 0) k) ∧ (kitB "str" k.nm = isKd (.str []) k) ∧ (kitB "list" k.nm = isKd (.lst []) k) ∧ (kitB "tuple" k.nm = isKd (.tup []) k) := by
  intro k
  cases k <;> decide +kernel
theorem isi_of {κ : Kx} {H G : Hp} {v : V} {d : D} {k : Kd} {b : Bool} (s : Same G H) (r : RBq κ H G v d) (e : isKd d k = some b) : ∃ t, TyX κ.K H v t ∧ PySem.W.kitOne κ.K t (.type k.nm) = some b := by
  obtain ⟨h1, h2, h3, h4, h5, h6⟩ := kd_all k
  cases d with
  | non => cases k <;> (cases e; rw [r.non]; exact ⟨_, .base .non, kit_ty h1⟩)
  | bl c => rw [r.bl]; exact ⟨_, .base (.bl c), kit_ty (h2.trans (by cases k <;> exact e))⟩
  | int i => rw [r.int]; exact ⟨_, .base (.int i), kit_ty (h3.trans (by cases k <;> exact e))⟩
  | str w => rw [r.str]; exact ⟨_, .base (.str _), kit_ty (h4.trans (by cases k <;> exact e))⟩
  | lst l =>
    obtain ⟨a, xs, rfl, g1, g2⟩ := r.lst s
    exact ⟨_, .base (.lst g1), kit_ty (h5.trans (by cases k <;> exact e))⟩
  | tup l =>
    obtain ⟨a, xs, rfl, g1, g2⟩ := r.tup s
    exact ⟨_, .base (.tup g1), kit_ty (h6.trans (by cases k <;> exact e))⟩
  | ob c l => cases k <;> cases e
  | scr l => cases k <;> cases e
  | xn o x => cases k <;> cases e
section
variable {X : Cx} {κ : Kx} {W : WX} {o e : Expr} {mo : Sm D} {pos p p2 : Pos}
theorem v_isi {T : Str} (k : Kd) (hK : X.K = κ.K) (hg : Gl X "isinstance") (hm : X.mg "isinstance" = none) (hT : PE X (.Name T p2) (tC (.ty k.nm))) (ho : PE X o (tX κ W (RB κ) mo))
    (hv : bootBuiltins "isinstance" = some (.builtin "isinstance") := by decide +kernel) (hst : starEach [o, .Name T p2] X.env = [(false, eval o X.env), (false, eval (.Name T p2) X.env)] := by rfl) (hst2 : starEach [.Name T p2] X.env = [(false, eval (.Name T p2) X.env)] := by rfl) (hpl : (backTo pos (starEach [.Name T p2] X.env)).any (·.1) = false := by rfl) :
    PE X (.Call (.Name "isinstance" p) [o, .Name T p2] [] pos) (tX κ W (RP κ) (fIsi mo k)) :=
  PE.imp (pe_callB call_isi hg hm hv (pa_cons ho (pa_cons hT pa_nil (by rw [hst2]; rfl)) (by rw [hst, hst2])) (by decide) (by decide) (by rw [hst, hst2]) hpl) fun σ H Q ⟨G, env, rp, q⟩ => by
    refine bind_post rp q fun d e1 x H1 G1 _ rp1 rx s1 f1 q1 => ?_
    cases z : isKd d k with
    | none => rw [z] at q1; exact q1.elim
    | some b =>
      rw [z] at q1
      obtain ⟨t, h1, h2⟩ := isi_of rp1.sub rx z
      rw [hK]
      exact ⟨x, .ty k.nm, t, .type k.nm, b, rfl, .ty _, h1, h2, q1 _ H1 G1 rp1 (.bl b) (Grw.refl _) Fr.refl⟩
end
/-! ### defs -/
inductive FO where
  | rt (r : Rs) | ex (x : Ex)
abbrev FSem := List D → Option FO
/-- .. of a def that is handed a thing to be changed -/
inductive FOI where
  | rt (r : Rs) (o : O) | ex (x : Ex) (o : O)
abbrev FSemI := O → List D → Option FOI
def RF (κ : Kx) (H H' G' : Hp) (v : V) : Rs → Prop
  | .sh d => Rp κ G' v d
  | .ow l => ∃ a xs, v = .ref a ∧ H a = none ∧ H' a = some (.lst xs) ∧ G' a = none ∧ RpA κ G' xs l
  | .tr o => ∃ F, RO κ H' G' v o F ∧ ∀ a, a ∈ F → H a = none
def FPost (κ : Kx) (H G : Hp) (o : Option FO) (Q : VK) (E : XK) : Prop := match o with
  | none => False
  | some (.rt r) => ∀ v H' G', Grw H H' → Same G G' → Sub κ G' H' → (∀ a o, H a = some o → G a = none → G' a = none) → RF κ H H' G' v r → Q v H'
  | some (.ex x) => ∀ c d H' G', Grw H H' → Same G G' → Sub κ G' H' → (∀ a o, H a = some o → G a = none → G' a = none) → XR κ G' x c d → E c d H'
def spV (κ : Kx) (ms : List Bool) (g : FSem) : Sp := fun vs H Q E => ∃ G ds, Sub κ G H ∧ RBs κ H G ms vs ds ∧ FPost κ H G (g ds) Q E
/-- what a thing at F has become -/
structure Chg (κ : Kx) (H G : Hp) (F : List Addr) (H' G' : Hp) : Prop where
  hk : ∀ a z, H a = some z → a ∉ F → ∃ o', H' a = some o' ∧ (nt z → o' = z)
  gk : Same G G'
  sub : Sub κ G' H'
  gn : ∀ a z, H a = some z → G a = none → a ∉ F → G' a = none
def RFI (κ : Kx) (H H' G' : Hp) (F F' : List Addr) (v : V) : Rs → Prop
  | .sh d => Rp κ G' v d
  | .ow l => ∃ a xs, v = .ref a ∧ (a ∈ F ∨ H a = none) ∧ a ∉ F' ∧ H' a = some (.lst xs) ∧ G' a = none ∧ RpA κ G' xs l
  | .tr o => ∃ F2, RO κ H' G' v o F2 ∧ ∀ a, a ∈ F2 → (a ∈ F ∨ H a = none) ∧ a ∉ F'
def FPostI (κ : Kx) (H G : Hp) (u : V) (F : List Addr) (o : Option FOI) (Q : VK) (E : XK) : Prop := match o with
  | none => False
  | some (.rt r o') => ∀ v H' G' F', Chg κ H G F H' G' → RO κ H' G' u o' F' → (∀ a, a ∈ F' → a ∈ F ∨ H a = none) → RFI κ H H' G' F F' v r → Q v H'
  | some (.ex x o') => ∀ c d H' G' F', Chg κ H G F H' G' → RO κ H' G' u o' F' → (∀ a, a ∈ F' → a ∈ F ∨ H a = none) → XR κ G' x c d → E c d H'
def insA {α : Type} : Nat → α → List α → List α
  | 0, x, l => x :: l
  | _ + 1, x, [] => [x]
  | n + 1, x, y :: l => y :: insA n x l
theorem insA_len {α : Type} (x : α) : ∀ (p : Nat) (l : List α), (insA p x l).length = l.length + 1
  | 0, l => rfl
  | p + 1, [] => rfl
  | p + 1, y :: l => by simp only [insA, List.length_cons, insA_len x p l]
theorem insA_at {α : Type} (x : α) : ∀ (p : Nat) (l : List α), p ≤ l.length → (insA p x l)[p]? = some x
  | 0, l, _ => rfl
  | p + 1, [], h => by simp at h
  | p + 1, y :: l, h => by simpa only [insA, List.getElem?_cons_succ] using insA_at x p l (by simpa using h)
/-- borrowed arguments lie apart from F -/
inductive RBx (κ : Kx) (H G : Hp) (F : List Addr) : List Bool → List V → List D → Prop
  | nil : RBx κ H G F [] [] []
  | sh {ms : List Bool} {v : V} {vs : List V} {d : D} {ds : List D} : Rp κ G v d → RBx κ H G F ms vs ds → RBx κ H G F (false :: ms) (v :: vs) (d :: ds)
  | bo {ms : List Bool} {v : V} {vs : List V} {d : D} {ds : List D} : (Rp κ G v d ∨ ∃ a xs l, d = .lst l ∧ v = .ref a ∧ H a = some (.lst xs) ∧ RpA κ G xs l ∧ a ∉ F) → RBx κ H G F ms vs ds → RBx κ H G F (true :: ms) (v :: vs) (d :: ds)
def spI (κ : Kx) (p : Nat) (ms : List Bool) (g : FSemI) : Sp := fun vs H Q E => ∃ G v us ds o F, vs = insA p v us ∧ p ≤ ms.length ∧ Sub κ G H ∧ RO κ H G v o F ∧ RBx κ H G F ms us ds ∧ FPostI κ H G v F (g o ds) Q E
theorem RBs.len {κ : Kx} {H G : Hp} : ∀ {ms : List Bool} {vs : List V} {ds : List D}, RBs κ H G ms vs ds → vs.length = ms.length ∧ ds.length = ms.length
  | _, _, _, .nil => ⟨rfl, rfl⟩
  | _, _, _, .sh _ t => by simp [t.len.1, t.len.2]
  | _, _, _, .bo _ t => by simp [t.len.1, t.len.2]
theorem RBx.len {κ : Kx} {H G : Hp} {F : List Addr} : ∀ {ms : List Bool} {vs : List V} {ds : List D}, RBx κ H G F ms vs ds → vs.length = ms.length ∧ ds.length = ms.length
  | _, _, _, .nil => ⟨rfl, rfl⟩
  | _, _, _, .sh _ t => by simp [t.len.1, t.len.2]
  | _, _, _, .bo _ t => by simp [t.len.1, t.len.2]
theorem RBs.x {κ : Kx} {H G : Hp} {F : List Addr} (h : ∀ a, a ∈ F → H a = none) : ∀ {ms : List Bool} {vs : List V} {ds : List D}, RBs κ H G ms vs ds → RBx κ H G F ms vs ds
  | _, _, _, .nil => .nil
  | _, _, _, .sh r t => .sh r (RBs.x h t)
  | _, _, _, .bo (.inl r) t => .bo (.inl r) (RBs.x h t)
  | _, _, _, .bo (.inr ⟨a, xs, l, h1, h2, h3, h4⟩) t => .bo (.inr ⟨a, xs, l, h1, h2, h3, h4, fun m => by rw [h a m] at h3; cases h3⟩) (RBs.x h t)
theorem RBx.mono {κ : Kx} {H G H' G' : Hp} {F : List Addr} (h : Grw H H') (g : Same G G') : ∀ {ms : List Bool} {vs : List V} {ds : List D}, RBx κ H G F ms vs ds → RBx κ H' G' F ms vs ds
  | _, _, _, .nil => .nil
  | _, _, _, .sh r t => .sh (r.mono g) (RBx.mono h g t)
  | _, _, _, .bo (.inl r) t => .bo (.inl (r.mono g)) (RBx.mono h g t)
  | _, _, _, .bo (.inr ⟨a, xs, l, h1, h2, h3, h4, h5⟩) t => .bo (.inr ⟨a, xs, l, h1, h2, h.at h3, h4.mono g, h5⟩) (RBx.mono h g t)
theorem RpA.x {κ : Kx} {H G : Hp} {F : List Addr} : ∀ {ms : List Bool} {vs : List V} {ds : List D}, ms.length = vs.length → RpA κ G vs ds → RBx κ H G F ms vs ds
  | [], _, _, _, .nil => .nil
  | [], _, _, h, .cons _ _ => by cases h
  | _ :: _, _, _, h, .nil => by cases h
  | false :: ms, _, _, h, .cons r t => .sh r (RpA.x (by simpa using h) t)
  | true :: ms, _, _, h, .cons r t => .bo (.inl r) (RpA.x (by simpa using h) t)
def bof : D → Sl
  | .lst l => .bo l
  | d => .sh d
def inis : List Bool → List D → En
  | true :: ms, d :: ds => bof d :: inis ms ds
  | false :: ms, d :: ds => .sh d :: inis ms ds
  | _, _ => []
def runDef (ms : List Bool) (k : Nat) (body : Ss) : FSem := fun ds => match body (inis ms ds ++ List.replicate k .un) with
  | some (.nx _) => some (.rt (.sh .non))
  | some (.rt r) => some (.rt r)
  | some (.ex x _) => some (.ex x)
  | _ => none
def ioAt (e : En) (p : Nat) : Option O := match e[p]? with
  | some (.io o) => some o
  | _ => none
def runDefI (p : Nat) (ms : List Bool) (k : Nat) (body : Ss) : FSemI := fun o ds => match body (insA p (.io o) (inis ms ds) ++ List.replicate k .un) with
  | some (.nx e) => match ioAt e p with
    | some o' => some (.rt (.sh .non) o')
    | none => none
  | some (.rv r e) => match ioAt e p with
    | some o' => some (.rt r o')
    | none => none
  | some (.ex x e) => match ioAt e p with
    | some o' => some (.ex x o')
    | none => none
  | _ => none
section
variable {κ : Kx} {H G : Hp}
/-- a slot at a def's start -/
def SlIn (κ : Kx) (H G : Hp) (F : List Addr) (v : Option V) : Sl → Prop
  | .un => True
  | .sh d => ∃ x, v = some x ∧ Rp κ G x d
  | .bo l => ∃ a xs, v = some (.ref a) ∧ H a = some (.lst xs) ∧ RpA κ G xs l ∧ a ∉ F
  | .io o => ∃ x, v = some x ∧ RO κ H G x o F
  | _ => False
theorem bof_in {F : List Addr} {v : V} {d : D} (s : Same G H) (hF : ∀ a, a ∈ F → G a = none) (r : Rp κ G v d ∨ ∃ a xs l, d = .lst l ∧ v = .ref a ∧ H a = some (.lst xs) ∧ RpA κ G xs l ∧ a ∉ F) : SlIn κ H G F (some v) (bof d) := by
  rcases r with r | ⟨a, xs, l, rfl, rfl, h3, h4, h5⟩
  · cases r with
    | lst h1 h2 => exact ⟨_, _, rfl, s _ _ h1, h2, fun m => by rw [hF _ m] at h1; cases h1⟩
    | non => exact ⟨_, rfl, .non⟩
    | bl b => exact ⟨_, rfl, .bl b⟩
    | int b => exact ⟨_, rfl, .int b⟩
    | str b => exact ⟨_, rfl, .str b⟩
    | tup h1 h2 => exact ⟨_, rfl, .tup h1 h2⟩
    | ob h1 h2 h3 => exact ⟨_, rfl, .ob h1 h2 h3⟩
    | scr h1 => exact ⟨_, rfl, .scr h1⟩
    | xn h1 => exact ⟨_, rfl, .xn h1⟩
  · exact ⟨a, xs, rfl, h3, h4, h5⟩
theorem inis_in {F : List Addr} (s : Same G H) (hF : ∀ a, a ∈ F → G a = none) : ∀ {ms : List Bool} {vs : List V} {ds : List D}, RBx κ H G F ms vs ds → ∀ (i : Nat) (z : Sl), (inis ms ds)[i]? = some z → SlIn κ H G F vs[i]? z ∧ ∀ o, z ≠ .io o
  | _, _, _, .nil, i, z, e => by simp [inis] at e
  | _, _, _, .sh r t, 0, z, e => by
    simp only [inis, List.getElem?_cons_zero, Option.some.injEq] at e
    subst e
    exact ⟨⟨_, rfl, r⟩, fun o q => nomatch q⟩
  | _, _, _, .bo r t, 0, z, e => by
    simp only [inis, List.getElem?_cons_zero, Option.some.injEq] at e
    subst e
    refine ⟨bof_in s hF r, fun o => ?_⟩
    unfold bof
    split <;> exact (fun z => nomatch z)
  | _, _, _, .sh r t, i + 1, z, e => by
    simp only [inis, List.getElem?_cons_succ] at e
    simpa only [List.getElem?_cons_succ] using inis_in s hF t i z e
  | _, _, _, .bo r t, i + 1, z, e => by
    simp only [inis, List.getElem?_cons_succ] at e
    simpa only [List.getElem?_cons_succ] using inis_in s hF t i z e
theorem inis_len : ∀ {ms : List Bool} {ds : List D}, ds.length = ms.length → (inis ms ds).length = ms.length
  | [], [], _ => rfl
  | [], _ :: _, h => by cases h
  | _ :: _, [], h => by cases h
  | true :: ms, d :: ds, h => by
    simp only [inis, List.length_cons]
    rw [inis_len (by simpa using h)]
  | false :: ms, d :: ds, h => by
    simp only [inis, List.length_cons]
    rw [inis_len (by simpa using h)]
/-- the addresses of the slots at the start -/
def fpS (F : List Addr) (env : En) (vs : List V) : Nat → List Addr := fun j => match env[j]? with
  | some (.bo _) => match vs[j]? with
    | some (.ref a) => [a]
    | _ => []
  | some (.io _) => F
  | _ => []
theorem rep_in {N : List Str} {vs : List V} {env0 : En} {k : Nat} {F : List Addr} (s : Sub κ G H) (hl : env0.length = vs.length) (hk : N.length = vs.length + k) (h : ∀ (i : Nat) (z : Sl), env0[i]? = some z → SlIn κ H G F vs[i]? z) (hu : ∀ (i j : Nat) (o o' : O), env0[i]? = some (Sl.io o) → env0[j]? = some (Sl.io o') → i = j) :
    Rep κ H ⟨G, fpS F (env0 ++ List.replicate k .un) vs⟩ (start N vs) (env0 ++ List.replicate k .un) := by
  have look : ∀ {i : Nat} {z : Sl}, (env0 ++ List.replicate k Sl.un)[i]? = some z → (i < vs.length ∧ env0[i]? = some z) ∨ z = .un := fun {i z} e => by
    by_cases hi : i < env0.length
    · rw [List.getElem?_append_left hi] at e
      exact .inl ⟨by omega, e⟩
    · rw [List.getElem?_append_right (by omega)] at e
      have := List.mem_of_getElem? e
      rw [List.mem_replicate] at this
      exact .inr this.2
  have st : ∀ {i : Nat}, i < vs.length → (start N vs)[i]? = (vs[i]?).map some := fun {i} hi => by
    unfold L2.start
    rw [List.getElem?_append_left (by rw [List.length_map]; exact hi), List.getElem?_map]
  refine ⟨s, ?_, fun i z e => ?_, fun i j a t ⟨s1, o, e1, t1, m1⟩ e2 m2 => ?_⟩
  · unfold L2.start
    rw [List.length_append, List.length_append, List.length_map, List.length_replicate, List.length_replicate]
    omega
  · show RSl κ H G _ (fpS F _ vs i) z
    rcases look e with ⟨hi, e2⟩ | rfl
    · have q := h i z e2
      rw [st hi]
      cases z with
      | un => show fpS F _ vs i = []; unfold fpS; rw [e]
      | sh d =>
        obtain ⟨x, h1, h2⟩ := q
        rw [h1]
        exact ⟨by unfold fpS; rw [e], x, rfl, h2⟩
      | bo l =>
        obtain ⟨a, xs, h1, h2, h3, h4⟩ := q
        rw [h1]
        exact ⟨a, xs, rfl, h2, h3, by unfold fpS; rw [e]; dsimp only; rw [h1]⟩
      | io o =>
        obtain ⟨x, h1, h2⟩ := q
        rw [h1]
        refine ⟨x, rfl, ?_⟩
        have : fpS F (env0 ++ List.replicate k Sl.un) vs i = F := by unfold fpS; rw [e]
        rw [this]
        exact h2
      | _ => exact q.elim
    · show fpS F _ vs i = []; unfold fpS; rw [e]
  · have m1 : a ∈ fpS F (env0 ++ List.replicate k Sl.un) vs i := m1
    have m2 : a ∈ fpS F (env0 ++ List.replicate k Sl.un) vs j := m2
    unfold fpS at m1 m2
    rw [e1] at m1
    rw [e2] at m2
    rcases look e1 with ⟨hi, e1'⟩ | rfl
    · have q1 := h i s1 e1'
      cases s1 with
      | io o1 =>
        rcases look e2 with ⟨hj, e2'⟩ | rfl
        · have q2 := h j t e2'
          cases t with
          | io o2 => exact hu i j _ _ e1' e2'
          | bo l =>
            obtain ⟨b, xs, h1, h2, h3, h4⟩ := q2
            dsimp only at m2
            rw [h1] at m2
            rw [List.mem_singleton.mp m2] at m1
            exact absurd m1 h4
          | _ => cases m2
        · cases m2
      | un => cases t1
      | sh d => cases t1
      | bo l => cases t1
      | _ => exact q1.elim
    · cases t1
theorem mt_start {vs : List V} {env0 : En} {k : Nat} {F : List Addr} {a : Addr} (m : Mt ⟨G, fpS F (env0 ++ List.replicate k .un) vs⟩ (env0 ++ List.replicate k .un) a) (h : ∀ (i : Nat) (z : Sl), env0[i]? = some z → SlIn κ H G F vs[i]? z) : a ∈ F ∧ ∃ (i : Nat) (o : O), env0[i]? = some (Sl.io o) := by
  obtain ⟨i, s, e, hm, m⟩ := m
  have m : a ∈ fpS F (env0 ++ List.replicate k Sl.un) vs i := m
  by_cases hi : i < env0.length
  · have e2 := e
    rw [List.getElem?_append_left hi] at e2
    have q := h i s e2
    unfold fpS at m
    rw [e] at m
    cases s with
    | io o => exact ⟨m, i, o, e2⟩
    | ow l => exact q.elim
    | tr o => exact q.elim
    | _ => cases hm
  · rw [List.getElem?_append_right (by omega)] at e
    have := List.mem_of_getElem? e
    rw [List.mem_replicate] at this
    rw [this.2] at hm
    cases hm
/-- the end of a def's proof -/
theorem v_end {N : List Str} {ms : List Bool} {k : Nat} {body : Ss} {vs : List V} {Q : VK} {E : XK} (hk : N.length = ms.length + k) (h : spV κ ms (runDef ms k body) vs H Q E) :
    tS κ (fun c d _ H' => E c d H') body { nx := fun _ H' => Q .non H', rt := Q } (start N vs) H := by
  obtain ⟨G, ds, s, r, q⟩ := h
  obtain ⟨l1, l2⟩ := r.len
  have rx := r.x (F := []) fun a m => by cases m
  have hin : ∀ (i : Nat) (z : Sl), (inis ms ds)[i]? = some z → SlIn κ H G [] vs[i]? z ∧ ∀ o, z ≠ .io o := inis_in s (fun a m => by cases m) rx
  have rp := rep_in (N := N) (k := k) (F := []) s (by rw [inis_len l2, l1]) (by rw [l1]; exact hk) (fun i z e => (hin i z e).1) fun i j o o' e _ => ((hin i _ e).2 o rfl).elim
  have nm : ∀ a, ¬ Mt ⟨G, fpS [] (inis ms ds ++ List.replicate k .un) vs⟩ (inis ms ds ++ List.replicate k .un) a := fun a m => by
    obtain ⟨m, _⟩ := mt_start m fun i z e => (hin i z e).1
    cases m
  refine ⟨_, _, rp, ?_⟩
  unfold runDef at q
  cases z : body (inis ms ds ++ List.replicate k Sl.un) with
  | none => rw [z] at q; exact q
  | some o => cases o with
    | nx e =>
      rw [z] at q
      exact fun σ' H' G' r' f => q .non H' G' (fun a o h => f.hk a o h (nm a)) f.gk r'.sub (fun a o h g => f.gn a o h g (nm a)) .non
    | bk e => rw [z] at q; exact q.elim
    | ct e => rw [z] at q; exact q.elim
    | rv r e => rw [z] at q; exact q.elim
    | rt x =>
      rw [z] at q
      intro v H' G' s' rr f
      refine q v H' G' (fun a o h => f.hk a o h (nm a)) f.gk s' (fun a o h g => f.gn a o h g (nm a)) ?_
      have fresh : ∀ a, Nw H ⟨G, fpS [] (inis ms ds ++ List.replicate k .un) vs⟩ (inis ms ds ++ List.replicate k .un) a → H a = none := fun a n => by
        cases w : H a with
        | none => rfl
        | some o => exact (nm a (n o w)).elim
      cases x with
      | sh d => exact rr
      | ow l =>
        obtain ⟨a, xs, h1, h2, h3, h4, h5⟩ := rr
        exact ⟨a, xs, h1, fresh a h5, h2, h3, h4⟩
      | tr o =>
        obtain ⟨F, h1, h2⟩ := rr
        exact ⟨F, h1, fun a m => fresh a (h2 a m)⟩
    | ex x e =>
      rw [z] at q
      exact fun c d σ' H' G' r' xr f => q c d H' G' (fun a o h => f.hk a o h (nm a)) f.gk r'.sub (fun a o h g => f.gn a o h g (nm a)) xr
theorem insA_cases {α : Type} {x z : α} : ∀ {p : Nat} {l : List α} {i : Nat}, p ≤ l.length → (insA p x l)[i]? = some z → (i = p ∧ z = x) ∨ (i ≠ p ∧ ∃ j : Nat, l[j]? = some z ∧ ∀ {β : Type} (y : β) (k : List β), k.length = l.length → (insA p y k)[i]? = k[j]?)
  | 0, l, 0, _, e => .inl ⟨rfl, by simpa [insA] using e.symm⟩
  | 0, l, i + 1, _, e => .inr ⟨by omega, i, by simpa [insA] using e, fun y k _ => by simp [insA]⟩
  | p + 1, [], i, h, e => by simp at h
  | p + 1, y :: l, 0, h, e => .inr ⟨by omega, 0, by simpa [insA] using e, fun w k hk => by
    cases k with
    | nil => simp at hk
    | cons c k => simp [insA]⟩
  | p + 1, y :: l, i + 1, h, e => by
    have e' : (insA p x l)[i]? = some z := by simpa [insA] using e
    rcases insA_cases (by simpa using h) e' with ⟨h1, h2⟩ | ⟨h1, j, h2, h3⟩
    · exact .inl ⟨by omega, h2⟩
    · refine .inr ⟨by omega, j + 1, by simpa using h2, fun w k hk => ?_⟩
      cases k with
      | nil => simp at hk
      | cons c k => simpa [insA] using h3 w k (by simpa using hk)
/-- .. of a def that is handed a thing to be changed -/
theorem v_endI {N : List Str} {p : Nat} {ms : List Bool} {k : Nat} {body : Ss} {vs : List V} {Q : VK} {E : XK} (hk : N.length = ms.length + 1 + k) (h : spI κ p ms (runDefI p ms k body) vs H Q E) :
    tS κ (fun c d _ H' => E c d H') body { nx := fun _ H' => Q .non H', rt := Q } (start N vs) H := by
  obtain ⟨G, v0, us, ds, o, F, rfl, hp, s, ro, rx, q⟩ := h
  obtain ⟨l1, l2⟩ := rx.len
  have li := inis_len l2
  have hin := inis_in s (fun a m => (ro.own m).2) rx
  have hin2 : ∀ (i : Nat) (z : Sl), (insA p (Sl.io o) (inis ms ds))[i]? = some z → SlIn κ H G F (insA p v0 us)[i]? z ∧ (i = p ∨ ∀ o, z ≠ .io o) := fun i z e => by
    rcases insA_cases (by rw [li]; exact hp) e with ⟨rfl, rfl⟩ | ⟨h1, j, h2, h3⟩
    · exact ⟨⟨v0, insA_at v0 _ us (by rw [l1]; exact hp), ro⟩, .inl rfl⟩
    · rw [h3 v0 us (by rw [l1, li])]
      exact ⟨(hin j z h2).1, .inr (hin j z h2).2⟩
  have rp := rep_in (N := N) (k := k) (F := F) (vs := insA p v0 us) (env0 := insA p (.io o) (inis ms ds)) s (by rw [insA_len, insA_len, li, l1]) (by rw [insA_len, l1]; exact hk) (fun i z e => (hin2 i z e).1) fun i j o1 o2 e1 e2 => by
    rcases (hin2 i _ e1).2 with h1 | h1
    · rcases (hin2 j _ e2).2 with h2 | h2
      · exact h1.trans h2.symm
      · exact (h2 _ rfl).elim
    · exact (h1 _ rfl).elim
  have mf : ∀ a, Mt ⟨G, fpS F (insA p (.io o) (inis ms ds) ++ List.replicate k .un) (insA p v0 us)⟩ (insA p (.io o) (inis ms ds) ++ List.replicate k .un) a → a ∈ F := fun a m => (mt_start m fun i z e => (hin2 i z e).1).1
  have sp : (start N (insA p v0 us))[p]? = some (some v0) := by
    unfold L2.start
    rw [List.getElem?_append_left (by rw [List.length_map, insA_len, l1]; omega), List.getElem?_map, insA_at v0 p us (by rw [l1]; exact hp)]
    rfl
  refine ⟨_, _, rp, ?_⟩
  generalize hG0 : (⟨G, fpS F (insA p (Sl.io o) (inis ms ds) ++ List.replicate k .un) (insA p v0 us)⟩ : Gh) = G0 at rp mf ⊢
  have g0 : G0.g = G := by rw [← hG0]
  have chg : ∀ {σ' : L2.St} {H' : Hp} {G' : Gh} {e : En} {o' : O}, Rep κ H' G' σ' e → Fr H G0 (start N (insA p v0 us)) (insA p (.io o) (inis ms ds) ++ List.replicate k .un) H' G' σ' e → ioAt e p = some o' →
      Chg κ H G F H' G' ∧ RO κ H' G' v0 o' (G'.fp p) ∧ ∀ a, a ∈ G'.fp p → a ∈ F ∨ H a = none := fun {σ' H' G' e o'} r' f hio => by
    have ep : e[p]? = some (.io o') := by
      unfold ioAt at hio
      split at hio
      · rename_i o2 h2; cases hio; exact h2
      · cases hio
    obtain ⟨s0, h0, w0, es, _⟩ := f.lk p (.io o') rfl ep
    obtain ⟨x, h1, h2⟩ := (r'.slot p _ ep).th (o := o') rfl
    rw [es, sp] at h1
    cases h1
    refine ⟨⟨fun a z h n => f.hk a z h fun m => n (mf a m), by rw [← g0]; exact f.gk, r'.sub, fun a z h g n => f.gn a z h (by rw [g0]; exact g) fun m => n (mf a m)⟩, h2, fun a m => ?_⟩
    cases w : H a with
    | none => exact .inr rfl
    | some z => exact .inl (mf a (f.mm a z w ⟨p, _, ep, rfl, m⟩))
  unfold runDefI at q
  cases z : body (insA p (Sl.io o) (inis ms ds) ++ List.replicate k Sl.un) with
  | none => rw [z] at q; exact q
  | some w => cases w with
    | nx e =>
      rw [z] at q
      intro σ' H' G' r' f
      dsimp only at q
      cases y : ioAt e p with
      | none => rw [y] at q; exact q.elim
      | some o' =>
        rw [y] at q
        obtain ⟨c1, c2, c3⟩ := chg r' f y
        exact q .non H' G' _ c1 c2 c3 .non
    | bk e => rw [z] at q; exact q.elim
    | ct e => rw [z] at q; exact q.elim
    | rt x => rw [z] at q; exact q.elim
    | rv x e =>
      rw [z] at q
      intro v σ' H' G' r' rv f
      dsimp only at q
      cases y : ioAt e p with
      | none => rw [y] at q; exact q.elim
      | some o' =>
        rw [y] at q
        obtain ⟨c1, c2, c3⟩ := chg r' f y
        have ep : e[p]? = some (.io o') := by
          unfold ioAt at y
          split at y
          · rename_i o2 h2; cases y; exact h2
          · cases y
        refine q v H' G' _ c1 c2 c3 ?_
        have nw : ∀ a, Nw H G0 (insA p (.io o) (inis ms ds) ++ List.replicate k .un) a → a ∈ F ∨ H a = none := fun a n => by
          cases w : H a with
          | none => exact .inr rfl
          | some z => exact .inl (mf a (n z w))
        cases x with
        | sh d => exact rv
        | ow l =>
          obtain ⟨a, xs, h1, h2, h3, h4, h5, h6⟩ := rv
          exact ⟨a, xs, h1, nw a h6, h5 p _ ep, h2, h3, h4⟩
        | tr o2 =>
          obtain ⟨F2, h1, h2⟩ := rv
          exact ⟨F2, h1, fun a m => ⟨nw a (h2 a m).2, (h2 a m).1 p _ ep⟩⟩
    | ex x e =>
      rw [z] at q
      intro c d σ' H' G' r' xr f
      dsimp only at q
      cases y : ioAt e p with
      | none => rw [y] at q; exact q.elim
      | some o' =>
        rw [y] at q
        obtain ⟨c1, c2, c3⟩ := chg r' f y
        exact q c d H' G' _ c1 c2 c3 xr
end
/-- a def of the module that keeps its function: callers need no more -/
structure VFn (P : Program) (w : World) (κ : Kx) (mg : Str → Option Value) (base : Heap) (x : Str) (k : Nat) (ms : List Bool) (g : FSem) : Prop where
  ex : ∃ (f : Addr) (fd : FuncData) (ps : List Str), mg x = some (.ref f) ∧ PySem.W.keepIn κ.K (.ref f) = true ∧ FnOk P w κ.K mg base (L2.CX P w) k f fd ps (spV κ ms g) ∧ Binds κ.K fd ps []
structure VFnI (P : Program) (w : World) (κ : Kx) (mg : Str → Option Value) (base : Heap) (x : Str) (k : Nat) (p : Nat) (ms : List Bool) (g : FSemI) : Prop where
  ex : ∃ (f : Addr) (fd : FuncData) (ps : List Str), mg x = some (.ref f) ∧ PySem.W.keepIn κ.K (.ref f) = true ∧ FnOk P w κ.K mg base (L2.CX P w) k f fd ps (spI κ p ms g) ∧ Binds κ.K fd ps []
def fCall (g : FSem) (m : Sm (List D)) : Sm Rs := bnd m fun ds e => match g ds with
  | some (.rt r) => some (.ok r e)
  | some (.ex x) => some (.ex x e)
  | none => none
/-- a thing that is changed, at a slot -/
def getO : Sl → Option O
  | .ow l => some (.ls l)
  | .io o => some o
  | .tr o => some o
  | _ => none
def setO : Sl → O → Sl
  | .io _, o => .io o
  | .ow _, .ls l => .ow l
  | _, o => .tr o
theorem getO_th {s : Sl} {o : O} (h : getO s = some o) : s.th = some o ∧ s.mut = true := by
  cases s <;> first
    | (cases h; done)
    | (cases h; exact ⟨rfl, rfl⟩)
theorem setO_th {s : Sl} {o : O} : (setO s o).th = some o ∧ (setO s o).mut = true := by
  cases s <;> cases o <;> exact ⟨rfl, rfl⟩
theorem setO_was {s : Sl} {o o' : O} (h : getO s = some o) : (setO s o').fix = true → (setO s o').was s := fun q => by
  cases s <;> first
    | (cases h; done)
    | exact ⟨_, rfl⟩
    | (cases o' <;> cases q)
def fCallI (i : Nat) (g : FSemI) (m : Sm (List D)) : Sm Rs := bnd m fun ds e => match e[i]? with
  | some s => match getO s with
    | some o => match g o ds with
      | some (.rt r o') => some (.ok r (e.set i (setO s o')))
      | some (.ex x o') => some (.ex x (e.set i (setO s o')))
      | none => none
    | none => none
  | none => none
section
variable {X : Cx} {κ : Kx} {W : WX} {e : Expr} {es : List Expr} {ms : List Bool} {g : FSem} {gI : FSemI} {mr : Sm (List D)} {k : Nat} {x : Str} {p pos : Pos}
theorem call_post {σ : L2.St} {H : Hp} {G : Gh} {env : En} {vs : List V} {ds : List D} {Q : VK} (r : Rep κ H G σ env) (rv : RBs κ H G ms vs ds) (q : EPost κ W (RV κ) σ H G env (match g ds with
  | some (.rt r) => some (.ok r env)
  | some (.ex x) => some (.ex x env)
  | none => none) Q) : spV κ ms g vs H Q (WE W σ) := by
  refine ⟨G.g, ds, r.sub, rv, ?_⟩
  have gr : ∀ {H' G' : Hp}, Grw H H' → Same G.g G' → Sub κ G' H' → (∀ a o, H a = some o → G.g a = none → G' a = none) → Rep κ H' ⟨G', G.fp⟩ σ env ∧ Fr H G σ env H' ⟨G', G.fp⟩ σ env := fun {H' G'} s g1 g2 gn =>
    ⟨r.grow (G' := ⟨G', G.fp⟩) s g1 g2 (fun _ => rfl) fun i a o => by
      obtain ⟨⟨u, h⟩, g0⟩ := r.own o
      exact gn a _ h g0, Fr.same s g1 (fun a o h g0 _ => gn a o h g0) (fun _ _ _ h => h) fun _ _ _ h => ⟨h, rfl⟩⟩
  cases z : g ds with
  | none => rw [z] at q; exact q
  | some o => cases o with
    | rt y =>
      rw [z] at q
      intro v H' G' s g1 g2 gn rf
      obtain ⟨r1, f1⟩ := gr s g1 g2 gn
      refine q v H' ⟨G', G.fp⟩ r1 ?_ s f1
      have fr : ∀ a, H a = none → Fre ⟨G', G.fp⟩ env a ∧ Nw H G env a := fun a h2 => ⟨r.fre h2, fun o h => by rw [h2] at h; cases h⟩
      cases y with
      | sh d => exact rf
      | ow l =>
        obtain ⟨a, xs, h1, h2, h3, h4, h5⟩ := rf
        exact ⟨a, xs, h1, h3, h4, h5, (fr a h2).1, (fr a h2).2⟩
      | tr o =>
        obtain ⟨F, h1, h2⟩ := rf
        exact ⟨F, h1, fun a m => fr a (h2 a m)⟩
    | ex y =>
      rw [z] at q
      intro c d H' G' s g1 g2 gn xr
      obtain ⟨r1, f1⟩ := gr s g1 g2 gn
      exact q c d H' ⟨G', G.fp⟩ r1 xr s f1
theorem v_call (F : VFn X.prog X.w κ X.mg X.base x k ms g) (hK : X.K = κ.K) (hr : Room k X.A) (tk : Takes X W) (hg : Gl X x) (ha : PA X (e :: es) (tX κ W (RA κ ms) mr)) (hdb : (x == ("__debug__" : Str)) = false := by decide)
    (he : starEach (e :: es) X.env = (false, eval e X.env) :: starEach es X.env := by rfl) (hpl : (backTo pos (starEach es X.env)).any (·.1) = false := by rfl) : PE X (.Call (.Name x p) (e :: es) [] pos) (tX κ W (RV κ) (fCall g mr)) := by
  obtain ⟨f, fd, ps, hm, hk, F1, hb⟩ := F.ex
  rw [← hK] at hk F1 hb
  refine PE.imp (pe_callS F1 hr hg hm hk hb (fun σ => passAt tk σ) ha hdb he hpl) fun σ H Q ⟨G, env, r, q⟩ => ?_
  exact bind_post r q fun d e1 vs H1 G1 em r1 rv s1 f1 q1 => call_post r1 rv q1
/-- all given away -/
def RAP (κ : Kx) : Rl (List D) (List V) := fun _ _ _ G _ vs ds => RpA κ G vs ds
instance : RlMono (RAP κ) := ⟨fun _ q => q⟩
end
def fM2 (f : List Nat → D → D → Option Rs) (mo me me2 : Sm D) : Sm Rs := bnd mo fun x => match x with
  | .str w => bnd me fun y => bnd me2 fun y2 e => match f w y y2 with
    | some z => some (.ok z e)
    | none => none
  | _ => fun _ => none
def opFind3 : List Nat → D → D → Option Rs
  | a, .str b, .int i => some (.sh (.int (Txt.find3 (S a) (S b) i)))
  | _, _, _ => none
def opStarts3 : List Nat → D → D → Option Rs
  | a, .str b, .int i => some (.sh (.bl (Txt.startswith3 (S a) (S b) i)))
  | _, _, _ => none
section
variable {X : Cx} {κ : Kx} {W : WX} {o e e2 : Expr} {mo me me2 : Sm D} {pos apos : Pos}
end
theorem spV_len {κ : Kx} {ms : List Bool} {g : FSem} {vs : List V} {H : Hp} {Q : VK} {E : XK} (h : spV κ ms g vs H Q E) : vs.length = ms.length := by
  obtain ⟨G, ds, _, r, _⟩ := h
  exact r.len.1
theorem spI_len {κ : Kx} {p : Nat} {ms : List Bool} {g : FSemI} {vs : List V} {H : Hp} {Q : VK} {E : XK} (h : spI κ p ms g vs H Q E) : vs.length = ms.length + 1 := by
  obtain ⟨G, v, us, ds, o, F, rfl, _, _, _, r, _⟩ := h
  rw [insA_len, r.len.1]
/-! ### the row's end -/
def spLaw (K : PySem.W.Frag) : Sp := fun vs H Q _ => ∃ (a : Addr) (ns : List Int), vs = [.ref a] ∧ SqL K H a (ns.map V.int) ∧ ns.length ≤ 63 ∧ (∀ z ∈ ns, Builtin.Int.intBits z ≤ 1048576) ∧ ∀ H', Q (.bl true) H'
/-- the law's function tells True of every script -/
def LawTrue (g : FSem) : Prop := ∀ ns : List Int, ns.length ≤ 63 → (∀ z ∈ ns, Builtin.Int.intBits z ≤ 1048576) → g [.scr ns] = some (.rt (.sh (.bl true)))
open Classical in
/-- a heap without its tables -/
noncomputable def noTb (H : Hp) : Hp := fun a => if (∃ ps, H a = some (.tbl ps)) then none else H a
theorem noTb_at {H : Hp} {a : Addr} {o : HO} (h : H a = some o) (n : nt o) : noTb H a = some o := by
  unfold noTb
  rw [if_neg]
  · exact h
  · rintro ⟨ps, e⟩
    rw [h] at e
    exact n ps (Option.some.inj e)
theorem noTb_of {H : Hp} {a : Addr} {o : HO} (h : noTb H a = some o) : H a = some o ∧ nt o := by
  unfold noTb at h
  split at h
  · cases h
  · rename_i z
    exact ⟨h, fun ps e => z ⟨ps, by rw [h, e]⟩⟩
theorem law_spT {κ : Kx} {g : FSem} {m : Bool} (hg : LawTrue g) (vs : List V) (H : Hp) (Q : VK) (E : XK) (ht : LamX.Tabs κ.tb H) (h : spLaw κ.K vs H Q E) : spV κ [m] g vs H Q E := by
  obtain ⟨a, ns, rfl, hs, hl, hb, k⟩ := h
  have hs' : SqL κ.K (noTb H) a (ns.map V.int) := hs.imp (fun r => by
    rcases r with r | ⟨o, r⟩
    · exact .inl (noTb_at r fun _ z => nomatch z)
    · exact .inr ⟨o, noTb_at r fun _ z => nomatch z⟩) id
  have rp : Rp κ (noTb H) (.ref a) (.scr ns) := .scr hs'
  refine ⟨noTb H, [.scr ns], ⟨fun b o e => (noTb_of e).1, fun b o e => (noTb_of e).2, ht⟩, ?_, ?_⟩
  · cases m with
    | true => exact .bo (.inl rp) .nil
    | false => exact .sh rp .nil
  · rw [hg ns hl hb]
    intro v H' G' _ _ _ _ r
    cases r
    exact k H'
theorem law_sp {κ : Kx} {g : FSem} {m : Bool} (hg : LawTrue g) (vs : List V) (H : Hp) (Q : VK) (E : XK) (h : spLaw κ.K vs H Q E) (ht : κ.tb = [] := by rfl) : spV κ [m] g vs H Q E :=
  law_spT hg vs H Q E (by rw [ht]; exact fun p hp => by cases hp) h
theorem cx_out {P : Program} {w : World} {H : Hp} {s : Shared} {e : Value} {s' : Shared} (h : L2.CX P w [] H s (fun _ _ _ => False) e s') : False := by
  obtain ⟨_, _, _, _, _, _, _, _, _, _, _, _, z⟩ := h
  exact z.elim
theorem walk_law {l : PySem.W.OpenLaw} {x : Str} {k : Nat} {q : Program} {loose : List Str} {XP : (Str → Option Value) → Heap → Prop} {YP : World → Heap → Prop} {d : DefRec} {K : Params → PySem.W.Frag} (hn : l.most = some 63) (hdf : d.params.defaults = []) (hr : Room k PySem.callerA)
    (hY : ∀ (w : World) (h : Heap), YP w h → (K w.params).In h)
    (F : ∀ (w : World) (mg : Str → Option Value) (fa : Addr) (h : Heap), (K w.params).In h → h.Ns mainGlobals mg → mg d.name = some (.ref fa) →
      ∃ fd : FuncData, (∀ (s : Shared) (u : Value), BindsTo s fd ⟨[u], []⟩ [(x, u)]) ∧ ∀ base : Heap, (K w.params).In base → base.Ns mainGlobals mg → FnOk l.prog w (K w.params) mg base (L2.CX l.prog w) k fa fd [x] (spLaw (K w.params))) :
    PySem.W.WalkO q loose XP YP l.row.toRowW d [] (fun f vs => PySem.call f vs) :=
  L2.walk_ofB (n := 63) (k := k) (x := x) (CX := fun w => L2.CX l.prog w) (sp := fun w => spLaw (K w.params)) hn (by decide) hdf hr hY F (fun _ _ a ns hl hb _ hS => ⟨a, ns, rfl, hS, hl, hb, fun _ => rfl⟩) fun _ _ _ _ _ z => cx_out z
end Vs


set_option Elab.async false
set_option linter.all false
set_option maxRecDepth 100000
set_option maxHeartbeats 2000000
/-! Vs2: comprehensions. -/
namespace Vs
open PySem L2
abbrev WF : WX := fun _ _ _ _ => False
def unE : List Nat → En → En
  | [], e => e
  | v :: vs, e => (unE vs e).set v .un
def unG : List Nat → Gh → Gh
  | [], G => G
  | v :: vs, G => (unG vs G).put v []
theorem unG_g : ∀ (vs : List Nat) (G : Gh), (unG vs G).g = G.g
  | [], _ => rfl
  | v :: vs, G => unG_g vs G
def UnAt (vs : List Nat) (env : En) : Prop := ∀ v ∈ vs, ∀ s, env[v]? = some s → s = .un
def Off (vs : List Nat) (σ σ' : L2.St) : Prop := ∀ j, j ∉ vs → σ[j]? = σ'[j]?
theorem Off.symm {vs : List Nat} {σ σ' : L2.St} (o : Off vs σ σ') : Off vs σ' σ := fun j h => (o j h).symm
theorem off_wipe {vs : List Nat} {σ : L2.St} : Off vs σ (wipe σ vs) := fun j h => (wipe_out h).symm
theorem wipe_in {σ : L2.St} {j : Nat} : ∀ {vs : List Nat}, j ∈ vs → (wipe σ vs)[j]? = if j < σ.length then some none else none
  | v :: vs, h => by
    unfold wipe
    by_cases e : v = j
    · subst e
      by_cases hl : v < σ.length
      · rw [if_pos hl, List.getElem?_set_self (by rw [wipe_length]; exact hl)]
      · rw [if_neg hl, List.getElem?_eq_none (by rw [List.length_set, wipe_length]; omega)]
    · rw [List.getElem?_set_ne e]
      exact wipe_in ((List.mem_cons.mp h).resolve_left fun w => e w.symm)
theorem wipe_eq {vs : List Nat} {σ σ' : L2.St} (o : Off vs σ σ') (l : σ'.length = σ.length) : wipe σ' vs = wipe σ vs := by
  refine List.ext_getElem? fun j => ?_
  by_cases h : j ∈ vs
  · rw [wipe_in h, wipe_in h, l]
  · rw [wipe_out h, wipe_out h, o j h]
section
variable {κ : Kx} {H H' : Hp} {G G' : Gh} {σ σ' τ τ' : L2.St} {env env' : En} {vs : List Nat} {a L : Addr}
theorem unE_at : ∀ vs : List Nat, UnAt vs (unE vs env)
  | [], v, h, _, _ => nomatch h
  | v :: vs, w, h, s, e => by
    unfold unE at e
    rcases set_look e with ⟨_, q⟩ | ⟨q, e2⟩
    · exact q
    · exact unE_at vs w ((List.mem_cons.mp h).resolve_left fun z => q z.symm) s e2
theorem Rep.drop1 (r : Rep κ H G σ env) (i : Nat) : Rep κ H (G.put i []) σ (env.set i .un) := by
  have back : ∀ {j : Nat} {b : Addr}, Own (G.put i []) (env.set i .un) j b → Own G env j b ∧ i ≠ j := fun {j b} ⟨u, o', e', t', m⟩ => by
    rcases set_look e' with ⟨rfl, rfl⟩ | ⟨w, e2⟩
    · cases t'
    · rw [put_ne w] at m
      exact ⟨⟨u, o', e2, t', m⟩, w⟩
  refine ⟨r.sub, by rw [List.length_set]; exact r.len, fun j s e => ?_, fun j k b t ow e m => ?_⟩
  · rcases set_look e with ⟨rfl, rfl⟩ | ⟨w, e2⟩
    · exact put_at
    · show RSl κ H G.g _ ((G.put i []).fp j) s
      rw [put_ne w]
      exact r.slot j s e2
  · rcases set_look e with ⟨rfl, rfl⟩ | ⟨w, e2⟩
    · rw [put_at] at m; cases m
    · rw [put_ne w] at m
      exact r.inj j k b t (back ow).1 e2 m
theorem Fr.drop1 (i : Nat) : Fr H G σ env H (G.put i []) σ (env.set i .un) := Fr.same (Grw.refl _) (Same.refl _) (fun _ _ _ h _ => h) (fun b o h ⟨j, s, e, hm, m⟩ => by
    rcases set_look e with ⟨rfl, rfl⟩ | ⟨w, e2⟩
    · cases hm
    · rw [put_ne w] at m
      exact ⟨j, s, e2, hm, m⟩) fun j s hf e => by
  rcases set_look e with ⟨rfl, rfl⟩ | ⟨w, e2⟩
  · cases hf
  · exact ⟨e2, put_ne w⟩
theorem Rep.unE (r : Rep κ H G σ env) : ∀ vs : List Nat, Rep κ H (unG vs G) σ (unE vs env)
  | [] => r
  | v :: vs => (Rep.unE r vs).drop1 v
theorem Fr.unE : ∀ vs : List Nat, Fr H G σ env H (unG vs G) σ (unE vs env)
  | [] => Fr.refl
  | v :: vs => (Fr.unE vs).trans (Fr.drop1 v)
theorem un_off {i : Nat} {s : Sl} (u : UnAt vs env) (o : Off vs σ σ') (e : env[i]? = some s) (h : s ≠ .un) : σ[i]? = σ'[i]? := o i fun m => h (u i m s e)
theorem Rep.off (u : UnAt vs env) (o : Off vs σ σ') (hl : σ'.length = σ.length) (r : Rep κ H G σ env) : Rep κ H G σ' env := by
  refine ⟨r.sub, hl.trans r.len, fun i s e => ?_, r.inj⟩
  by_cases h : s = .un
  · subst h; exact r.slot i _ e
  · rw [← un_off u o e h]
    exact r.slot i s e
theorem fix_un {s : Sl} (h : s.fix = true) : s ≠ .un := fun z => by subst z; cases h
theorem Fr.offR (u : UnAt vs env') (o : Off vs τ τ') (f : Fr H G σ env H' G' τ env') : Fr H G σ env H' G' τ' env' where
  hk := f.hk
  gk := f.gk
  gn := f.gn
  mm := f.mm
  lk := fun i s hf e => by
    obtain ⟨s0, e1, w, e2, e3⟩ := f.lk i s hf e
    exact ⟨s0, e1, w, (un_off u o e (fix_un hf)).symm.trans e2, e3⟩
/-- a list in no slot stays so -/
theorem Fre.keep {u : HO} (r : Rep κ H G σ env) (r' : Rep κ H' G' σ' env') (f : Fr H G σ env H' G' σ' env') (h : H L = some u) (g0 : G.g L = none) (p : Fre G env L) : Fre G' env' L := fun i s e m => by
  have nm : ¬ Mt G env L := fun ⟨j, t, e2, _, m2⟩ => p j t e2 m2
  by_cases hm : s.mut = true
  · exact nm (f.mm L u h ⟨i, s, e, hm, m⟩)
  · have hm' : s.mut = false := by simpa using hm
    by_cases hf : s.fix = true
    · obtain ⟨s0, e1, w, _, e3⟩ := f.lk i s hf e
      have q := was_eq hm' hf w
      subst q
      rw [e3 rfl hm'] at m
      exact p i _ e1 m
    · have q := r'.slot i s e
      cases s with
      | un => rw [show G'.fp i = [] from q] at m; cases m
      | sh d => rw [q.1] at m; cases m
      | lk l => exact hf rfl
      | bo l => exact hf rfl
      | ow l => exact hm rfl
      | io o => exact hm rfl
      | tr o => exact hm rfl
theorem Fre.mt (p : Fre G env L) : ¬ Mt G env L := fun ⟨j, t, e2, _, m2⟩ => p j t e2 m2
/-- the list that is made -/
structure DA (κ : Kx) (H : Hp) (G : Gh) (env : En) (L : Addr) (acc : List D) (xs : List V) : Prop where
  h : H L = some (.lst xs)
  g : G.g L = none
  r : RpA κ G xs acc
  f : Fre G env L
theorem DA.keep {acc : List D} {xs : List V} (r : Rep κ H G σ env) (r' : Rep κ H' G' σ' env') (d : DA κ H G env L acc xs) (s : Grw H H') (f : Fr H G σ env H' G' σ' env') : DA κ H' G' env' L acc xs :=
  ⟨s.at d.h, f.gn L _ d.h d.g d.f.mt, d.r.mono f.gk, d.f.keep r r' f d.h d.g⟩
theorem Rep.updD {acc : List D} {xs ys : List V} (r : Rep κ H G σ env) (d : DA κ H G env L acc xs) : Rep κ (upd H L (.lst ys)) G σ env := by
  have ne : ∀ {i : Nat} {s : Sl} {b : Addr}, env[i]? = some s → b ∈ G.fp i → b ≠ L := fun {i s b} e m z => d.f i s e (z ▸ m)
  refine ⟨⟨same_upd r.sub.s d.g, r.sub.n, tabs_of r.sub.t fun a o e np => by
    by_cases z : a = L
    · rw [z, d.h] at e
      cases e
      exact (np ⟨(fun _ z => nomatch z), (fun _ z => nomatch z)⟩).elim
    · rw [upd_ne z]
      exact e⟩, r.len, fun i s e => ?_, r.inj⟩
  have t := r.slot i s e
  have th : ∀ {o : O}, s.th = some o → RSl κ (upd H L (.lst ys)) G σ[i]? (G.fp i) s := fun {o} z => by
    obtain ⟨x, h1, h2⟩ := t.th z
    exact .of z h1 (h2.grow (Same.refl _) (fun b u m h => by rw [upd_ne (ne e m)]; exact h) fun b m => (h2.own m).2)
  cases s with
  | un => exact t
  | sh x => exact t
  | ow m => exact th rfl
  | lk m => exact th rfl
  | io m => exact th rfl
  | tr m => exact th rfl
  | bo m =>
    obtain ⟨b, zs, t1, t2, t4, t5⟩ := t
    exact ⟨b, zs, t1, by rw [upd_ne (ne e (by rw [t5]; exact List.mem_singleton_self b))]; exact t2, t4, t5⟩
theorem Fr.updD {u : HO} (h : H L = none) (f : Fr H G σ env H' G' σ' env') : Fr H G σ env (upd H' L u) G' σ' env' where
  hk := fun a o e n => by rw [upd_ne (ne_of_none e h)]; exact f.hk a o e n
  gk := f.gk
  gn := f.gn
  mm := f.mm
  lk := f.lk
end
/-- a target whose names are the comprehension's own -/
def TgOff (κ : Kx) (vs : List Nat) (g : TG) (f : D → En → Option En) : Prop := ∀ (v : V) (d : D) (σ : L2.St) (H : Hp) (G : Gh) (env e1 : En) (Q : L2.St → Hp → Prop), f d env = some e1 → Rep κ H G σ env → Rp κ G v d → (∀ σ1 G1, Rep κ H G1 σ1 e1 → Fr H G σ env H G1 σ1 e1 → Off vs σ σ1 → σ1.length = σ.length → Q σ1 H) → g v σ H Q
section
variable {κ : Kx} {vs : List Nat}
theorem off_set {σ : L2.St} {i : Nat} {x : Option V} (h : i ∈ vs) : Off vs σ (σ.set i x) := fun j n => by
  rw [List.getElem?_set_ne (fun z : i = j => n (z ▸ h))]
theorem to_name (i : Nat) (hi : (vs.elem i) = true) : TgOff κ vs (gName i) (tgN i) := fun v d σ H G env e1 Q e r h q => by
  have hi := List.mem_of_elem_eq_true hi
  unfold tgN at e
  by_cases hl : i < env.length
  · rw [if_pos hl] at e
    cases e
    obtain ⟨G1, _, a, b⟩ := rep_sh r hl h
    exact q _ G1 a b (off_set hi) (List.length_set ..)
  · rw [if_neg hl] at e; cases e
end
def lcL (f : D → En → Option En) (tt : Sm Bool) (te : Sm D) (vs : List Nat) : List D → List D → Sm Rs
  | [], acc, e => some (.ok (.ow acc) e)
  | d :: ds, acc, e => match f d e with
    | none => none
    | some e1 => match tt e1 with
      | some (.ok true e2) => match te e2 with
        | some (.ok y e3) => lcL f tt te vs ds (acc ++ [y]) (unE vs e3)
        | _ => none
      | some (.ok false e2) => lcL f tt te vs ds acc (unE vs e2)
      | _ => none
def fLc (mi : Sm (List D)) (f : D → En → Option En) (tt : Sm Bool) (te : Sm D) (vs : List Nat) : Sm Rs := bnd mi fun ds e => if ds.length ≤ szl then lcL f tt te vs ds [] (unE vs e) else none
def tYs : Sm Bool := ret true
section
variable {X : Cx} {κ : Kx} {W : WX}
theorem lc_tr {wi : TI} {g : TG} {ttr : TT} {ter : TE} {vs : List Nat} {mi : Sm (List D)} {f : D → En → Option En} {tt : Sm Bool} {te : Sm D} {σ : L2.St} {H : Hp} {Q : VK}
    (hwi : ∀ σ H (P : It → Hp → Prop), tX κ W (RI κ) mi σ H P → wi σ H P) (hf : TgOff κ vs g f) (htt : ∀ σ H P, tX κ WF RT tt σ H P → ttr σ H P) (hte : ∀ σ H P, tX κ WF (RP κ) te σ H P → ter σ H P) (h : tX κ W (RV κ) (fLc mi f tt te vs) σ H Q) : tLc wi g ttr ter vs σ H Q := by
  obtain ⟨G, env, r, q⟩ := h
  refine hwi _ _ _ (bind_post r q fun ds e1 J H1 G1 em r1 rv s1 f1 q1 => ?_)
  obtain ⟨pr, hpr, yl⟩ := rv
  have hsz : ds.length ≤ szl := by
    by_cases hsz : ds.length ≤ szl
    · exact hsz
    · rw [if_neg hsz] at q1; exact q1.elim
  rw [if_pos hsz] at q1
  intro D hD
  have ow : Off vs σ (wipe σ vs) := off_wipe
  have lw : (wipe σ vs).length = σ.length := wipe_length σ vs
  let Inv0 : Nat → Hp → Prop := fun i H' => i ≤ ds.length ∧ ∃ G' env' acc xs, Rep κ H' G' (wipe σ vs) env' ∧ UnAt vs env' ∧ Fr H1 G1 σ e1 H' G' (wipe σ vs) env' ∧ DA κ H' G' env' D acc xs ∧ acc.length ≤ i ∧ Grw H1 H' ∧ EPost κ W (RV κ) σ H1 G1 e1 (lcL f tt te vs (ds.drop i) acc env') Q
  refine ⟨fun i m H' => m = ds.length - i ∧ Inv0 i H', ⟨ds.length, by simp, Nat.zero_le _, ?_⟩, ?_⟩
  · obtain ⟨st, rv⟩ := new_ow (xs := []) (l := []) r1 hD .nil
    obtain ⟨a0, xs0, e0, d1, d2, d3, d4, _⟩ := rv
    cases e0
    have u := unE_at (env := e1) vs
    have fu : Fr (upd H1 D (.lst [])) G1 σ e1 (upd H1 D (.lst [])) (unG vs G1) (wipe σ vs) (unE vs e1) := (Fr.unE vs).offR u ow
    have ru := (st.rep.unE vs).off u ow lw
    exact ⟨unG vs G1, unE vs e1, [], [], ru, u, st.fr.trans fu, ⟨upd_same, by rw [unG_g]; exact d2, .nil, d4.keep st.rep ru fu upd_same d2⟩, Nat.le_refl _, st.same, q1⟩
  rintro i m H2 ⟨rfl, hi2, G2, env2, acc, xs, r2, u2, fr2, da, al, sm, q2⟩
  have y := yl H2 G2 (fun a o pa e n => fr2.at e (hpr a pa)) fr2.gk r2.sub i
  by_cases hlt : i < ds.length
  · right
    have ed : ds[i]? = some ds[i] := List.getElem?_eq_getElem hlt
    have dr : ds.drop i = ds[i] :: ds.drop (i + 1) := (List.drop_eq_getElem_cons hlt)
    obtain ⟨go, yy⟩ := y.1 _ ed
    refine ⟨go, Inv0 (i + 1), fun H' h => ⟨ds.length - (i + 1), by omega, rfl, h⟩, fun x H3 hy => ?_⟩
    rw [dr] at q2
    dsimp only [lcL] at q2
    cases z : f ds[i] env2 with
    | none => rw [z] at q2; exact q2.elim
    | some e3 =>
      rw [z] at q2
      dsimp only at q2
      have item : ∃ G3 : Gh, Rep κ H3 G3 (wipe σ vs) env2 ∧ Fr H2 G2 (wipe σ vs) env2 H3 G3 (wipe σ vs) env2 ∧ Rp κ G3 x ds[i] ∧ Grw H2 H3 := by
        rcases yy x H3 hy with ⟨rfl, rx⟩ | ⟨T, ts, es, hT, rfl, rfl, e4, rx⟩
        · exact ⟨G2, r2, Fr.refl, rx, Grw.refl _⟩
        · have st := new_sh (o := .tup ts) r2 hT
          refine ⟨G2.up T (.tup ts), st.rep, st.fr, ?_, st.same⟩
          rw [e4]
          exact .tup upd_same (rx.mono (same_new (r2.sub.none hT)))
      obtain ⟨G3, r3, fr3, rx, s3⟩ := item
      refine hf x ds[i] (wipe σ vs) H3 G3 env2 e3 _ z r3 rx fun σ4 G4 r4 fr4 off4 len4 => ?_
      have off : Off vs σ σ4 := fun j n => (ow j n).trans (off4 j n)
      have len : σ4.length = σ.length := len4.trans lw
      refine ⟨wipe_eq off len, htt _ _ _ ⟨G4, e3, r4, ?_⟩⟩
      have da3 := (da.keep r2 r3 s3 fr3).keep r3 r4 (Grw.refl _) fr4
      have frA := (fr2.trans fr3).trans fr4
      have smA := sm.trans s3
      cases w : tt e3 with
      | none => rw [w] at q2; exact q2
      | some o => cases o with
        | ex x5 e5 => rw [w] at q2; exact q2.elim
        | ok b e5 =>
          rw [w] at q2
          intro b' H5 G5 r5 rb s5 fr5
          cases rb
          have da5 := da3.keep r4 r5 s5 fr5
          have frB := frA.trans fr5
          have back : ∀ {e : En}, Off vs σ4 (wipe σ vs) := fun {e} j n => (off j n).symm.trans (ow j n)
          cases b with
          | false =>
            rw [if_neg (by decide)]
            have u := unE_at (env := e5) vs
            have fu : Fr H5 G5 σ4 e5 H5 (unG vs G5) (wipe σ vs) (unE vs e5) := (Fr.unE vs).offR u (back (e := e5))
            have ru := (r5.unE vs).off u (back (e := e5)) (lw.trans len.symm)
            exact ⟨hlt, unG vs G5, unE vs e5, acc, xs, ru, u, frB.trans fu, da5.keep r5 ru (Grw.refl _) fu, by omega, smA.trans s5, q2⟩
          | true =>
            rw [if_pos rfl]
            dsimp only at q2
            refine hte _ _ _ ⟨G5, e5, r5, ?_⟩
            cases w6 : te e5 with
            | none => rw [w6] at q2; exact q2
            | some o6 => cases o6 with
              | ex x6 e6 => rw [w6] at q2; exact q2.elim
              | ok yd e6 =>
                rw [w6] at q2
                intro v H6 G6 r6 rv6 s6 fr6
                have da6 := da5.keep r5 r6 s6 fr6
                have u := unE_at (env := e6) vs
                have fu : Fr H6 G6 σ4 e6 H6 (unG vs G6) (wipe σ vs) (unE vs e6) := (Fr.unE vs).offR u (back (e := e6))
                have ru := (r6.unE vs).off u (back (e := e6)) (lw.trans len.symm)
                have da7 := da6.keep r6 ru (Grw.refl _) fu
                have hxs : xs.length = acc.length := da.r.length
                refine ⟨xs, da6.h, szl_lt (by omega), hlt, unG vs G6, unE vs e6, acc ++ [yd], xs ++ [v], ru.updD da7, u, ((frB.trans fr6).trans fu).updD hD, ⟨upd_same, da7.g, by rw [unG_g]; exact da6.r.append (.cons rv6 .nil), da7.f⟩, ?_, ?_, q2⟩
                · rw [List.length_append, List.length_singleton]; omega
                · intro a o e
                  rw [upd_ne (ne_of_none e hD)]
                  exact ((smA.trans s5).trans s6) a o e
  · left
    have e : i = ds.length := by omega
    subst e
    refine ⟨y.2 (Nat.le_refl _), ?_⟩
    rw [List.drop_length] at q2
    have ob : Off vs (wipe σ vs) σ := ow.symm
    exact q2 (.ref D) H2 G2 (r2.off u2 ob lw.symm) ⟨D, xs, rfl, da.h, da.g, da.r, da.f, fun o h => by rw [hD] at h; cases h⟩ sm (fr2.offR u2 ob)
variable {elt tg iter : Expr} {ifs : List Expr} {scope : Scope} {own : List (Str × Nat)} {pos spos py : Pos} {g : TG} {mi : Sm (List D)} {f : D → En → Option En} {tt : Sm Bool} {te : Sm D} {vs : List Nat}
theorem pts_yes : PTs X [] (tX κ WF RT tYs) := ⟨fun pins s σ H Q I ⟨G, env, r, q⟩ => pts_nil.run pins s σ H Q I (q true H G r rfl (Grw.refl _) Fr.refl)⟩
theorem v_lc (hc : X.calm = true) (hN : X.N.Nodup) (hv : vs = own.map (·.2)) (hi : PI X tg iter (tX κ W (RI κ) mi)) (ok : BlkOk X.N X.env.scope scope own)
    (hg : ∀ (s : Shared) (H : Hp) (C : Addr) (cl : List (Str × Addr)) (fp : List Addr), PG (X.blk s H scope (compEnvC scope cl C X.env) fp) tg g) (hf : TgOff κ vs g f) (ht : ∀ (s : Shared) (H : Hp) (C : Addr) (cl : List (Str × Addr)) (fp : List Addr), PTs (X.blk s H scope (compEnvC scope cl C X.env) fp) ifs (tX κ WF RT tt))
    (he : ∀ (s : Shared) (H : Hp) (C : Addr) (cl : List (Str × Addr)) (fp : List Addr), PE (X.blk s H scope (compEnvC scope cl C X.env) fp) elt (tX κ WF (RP κ) te)) (hs : ∀ x, foldedSetIterable iter X.env x = pure x := by intro _; rfl) :
    PE X (.ListComp elt [⟨tg, iter, ifs, 0⟩] scope pos) (tX κ W (RV κ) (fLc mi f tt te vs)) := by
  subst hv
  exact PE.imp (pe_lc hc hN hi ok hg ht he hs) fun σ H Q h => lc_tr (fun _ _ _ h => h) hf (fun _ _ _ h => h) (fun _ _ _ h => h) h
/-- an own list that is walked in an expression -/
def xLock (i : Nat) (m : Sm Rs) : Sm Rs := fun e => match e[i]? with
  | some (.ow l) => match m (e.set i (.lk l)) with
    | some (.ok r e1) => some (.ok r (unlk i e1))
    | some (.ex x e1) => some (.ex x (unlk i e1))
    | none => none
  | _ => m e
theorem lock_tr {i : Nat} {m : Sm Rs} {σ : L2.St} {H : Hp} {Q : VK} (h : tX κ W (RV κ) (xLock i m) σ H Q) : tX κ W (RV κ) m σ H Q := by
  obtain ⟨G, env, r, q⟩ := h
  unfold xLock at q
  split at q
  · rename_i l e
    refine ⟨G, _, r.locked e, ?_⟩
    cases w : m (env.set i (.lk l)) with
    | none => rw [w] at q; exact q
    | some o => cases o with
      | ex x e1 =>
        rw [w] at q
        exact fun c d H' G' r' xr s f => q c d H' G' r'.unlocked xr s (f.unlocked e)
      | ok z e1 =>
        rw [w] at q
        intro v H' G' r' rv s f
        exact q v H' G' r'.unlocked (rv_unlk (fun c n => lock_nw n) rv) s (f.unlocked e)
  · exact ⟨G, env, r, q⟩
theorem v_lock {i : Nat} {m : Sm Rs} {e : Expr} (h : PE X e (tX κ W (RV κ) m)) : PE X e (tX κ W (RV κ) (xLock i m)) := PE.imp h fun σ H Q q => lock_tr q
end
end Vs


set_option Elab.async false
set_option linter.all false
set_option maxRecDepth 100000
set_option maxHeartbeats 2000000
/-! Vx: own errors with one field (turned from the worked proof 42). -/
namespace PySem
namespace LowX_NoWord
open PySem.W PySem.Calls PyProof.Rows PySem.HandSPX
/-! ### the text of __init__ -/
def iA (p1 p2 : Pos) : Arguments := { posonlyargs := [], args := [{ arg := "self", annotation := none, pos := p1 }, { arg := "place", annotation := none, pos := p2 }], vararg := none, kwonlyargs := [], kw_defaults := [], kwarg := none, defaults := [] }
def iB (q1 q2 q3 q4 : Pos) : List Stmt := [.Assign [.Attribute (.Name "self" q1) "place" q2] (.Name "place" q3) q4]
def iS : Scope := { kind := .function, names := [(PySem.Str.ofString "self", .local), (PySem.Str.ofString "place", .local)], isGenerator := false, isCoroutine := false, more := [] }
/-- what the written part says of Low, at C, and of its __init__, at fI -/
structure LowTxt (K : Frag) (mg : Str → Option Value) (C fI : Addr) : Prop where
  gC : mg "NoWord" = some (.ref C)
  cls : ∃ nm q N bs bm sn sub ab col dd k0 k1 k2 k3 k5, K.lookup C = some (excClassObj nm q C N bs bm true sn sub ab col dd k0 k1 k2 k3 k5 "ValueError.__new__") ∧ refsVE bm = true
  sa : findIn K (.ref C) "__setattr__" = some (some (.builtin "object.__setattr__"))
  ga : findIn K (.ref C) "__getattribute__" = some (some (.builtin "BaseException.__getattribute__"))
  gg : findIn K (.ref C) "__getattr__" = some none
  noN : findIn K (.ref C) "place" = some none
  iC : findIn K (.ref C) "__init__" = some (some (.ref fI))
  tC : typeIn K (.ref fI) = some (.type "function")
  kC : keepIn K (.ref C) = true
  exC : subIn K (.ref C) (.type "BaseException") = some true
  tyC : typeIn K (.ref C) = some (.type "type")
  hdC : hasDictIn K C = true
  te : exmOne K (.ref C) (.ref C) = some true
  fn : ∃ (oc : Value) (od : Option Addr) (doc pm : Value) (an : Option Addr) (cdv ct : Value) (osl : Array (Option Value)) (p1 p2 q1 q2 q3 q4 : Pos),
    K.lookup fI = some ⟨oc, od, .func (fnOf "__init__" "NoWord.__init__" (iA p1 p2) (iB q1 q2 q3 q4) iS .none .none doc pm an cdv ct), osl⟩ ∧ codeIn K cdv "NoWord.__init__" = true
/-- what __init__ leaves of a fresh exception at x -/
structure InitEnd (h h' : Heap) (x C dx t1 : Addr) (v : Value) : Prop where
  keep : ∀ b o, b ≠ x → h.get? b = some o → h'.get? b = some o
  obj : h'.get? x = some { cls := .ref C, dict := some dx, data := .fields #[.ref t1, .none, .none, .none, .bool false, .none] }
  dbig : h.objs.size ≤ dx
  dne : dx ≠ x
  ns : h'.Ns1 dx (fun y => if y = "place" then some v else none)
/-- a made Low -/
structure OwnMade (h h' : Heap) (e C d : Addr) (v : Value) : Prop where
  keep : ∀ b o, h.get? b = some o → h'.get? b = some o
  new : h.objs.size ≤ e
  obj : ∃ oe vs, h'.get? e = some oe ∧ oe.cls = .ref C ∧ oe.dict = some d ∧ oe.data = .fields vs ∧ vs[1]? = some .none
  dbig : h.objs.size ≤ d
  dne : d ≠ e
  ns : h'.Ns1 d (fun y => if y = "place" then some v else none)
section
variable {prog : Program} {w : World} {A : Around} {E : Value → Shared → Prop} {R : Result → Shared → Prop} {s : Shared} {K : Frag} {mg : Str → Option Value} {C fI : Addr}
end
end LowX_NoWord
end PySem
namespace L2
open PySem PySem.Spec PyProof.Rows
section
variable {X : Cx} {C fI : Addr}
/-- Low(e) -/
def tMkLow_NoWord (C : Addr) (ta : TA) : St → Hp → XK → Prop := fun σ H Q => ta σ H fun vs H1 => ∃ v, vs = [v] ∧ ∀ d, H1 d = none → Q (.ref C) (some d) (upd H1 d (.xd [(("place" : Str), v)]))
/-- raise Low(e) -/
def tRaiseLow_NoWord (C : Addr) (W : WX) (ta : TA) : TS := fun _ σ H => tMkLow_NoWord C ta σ H fun cls d H' => W cls d σ H'
end
end L2

namespace PySem
namespace LowX_NoUse
open PySem.W PySem.Calls PyProof.Rows PySem.HandSPX
/-! ### the text of __init__ -/
def iA (p1 p2 : Pos) : Arguments := { posonlyargs := [], args := [{ arg := "self", annotation := none, pos := p1 }, { arg := "at", annotation := none, pos := p2 }], vararg := none, kwonlyargs := [], kw_defaults := [], kwarg := none, defaults := [] }
def iB (q1 q2 q3 q4 : Pos) : List Stmt := [.Assign [.Attribute (.Name "self" q1) "at" q2] (.Name "at" q3) q4]
def iS : Scope := { kind := .function, names := [(PySem.Str.ofString "self", .local), (PySem.Str.ofString "at", .local)], isGenerator := false, isCoroutine := false, more := [] }
/-- what the written part says of Low, at C, and of its __init__, at fI -/
structure LowTxt (K : Frag) (mg : Str → Option Value) (C fI : Addr) : Prop where
  gC : mg "NoUse" = some (.ref C)
  cls : ∃ nm q N bs bm sn sub ab col dd k0 k1 k2 k3 k5, K.lookup C = some (excClassObj nm q C N bs bm true sn sub ab col dd k0 k1 k2 k3 k5 "ValueError.__new__") ∧ refsVE bm = true
  sa : findIn K (.ref C) "__setattr__" = some (some (.builtin "object.__setattr__"))
  ga : findIn K (.ref C) "__getattribute__" = some (some (.builtin "BaseException.__getattribute__"))
  gg : findIn K (.ref C) "__getattr__" = some none
  noN : findIn K (.ref C) "at" = some none
  iC : findIn K (.ref C) "__init__" = some (some (.ref fI))
  tC : typeIn K (.ref fI) = some (.type "function")
  kC : keepIn K (.ref C) = true
  exC : subIn K (.ref C) (.type "BaseException") = some true
  tyC : typeIn K (.ref C) = some (.type "type")
  hdC : hasDictIn K C = true
  te : exmOne K (.ref C) (.ref C) = some true
  fn : ∃ (oc : Value) (od : Option Addr) (doc pm : Value) (an : Option Addr) (cdv ct : Value) (osl : Array (Option Value)) (p1 p2 q1 q2 q3 q4 : Pos),
    K.lookup fI = some ⟨oc, od, .func (fnOf "__init__" "NoUse.__init__" (iA p1 p2) (iB q1 q2 q3 q4) iS .none .none doc pm an cdv ct), osl⟩ ∧ codeIn K cdv "NoUse.__init__" = true
/-- what __init__ leaves of a fresh exception at x -/
structure InitEnd (h h' : Heap) (x C dx t1 : Addr) (v : Value) : Prop where
  keep : ∀ b o, b ≠ x → h.get? b = some o → h'.get? b = some o
  obj : h'.get? x = some { cls := .ref C, dict := some dx, data := .fields #[.ref t1, .none, .none, .none, .bool false, .none] }
  dbig : h.objs.size ≤ dx
  dne : dx ≠ x
  ns : h'.Ns1 dx (fun y => if y = "at" then some v else none)
/-- a made Low -/
structure OwnMade (h h' : Heap) (e C d : Addr) (v : Value) : Prop where
  keep : ∀ b o, h.get? b = some o → h'.get? b = some o
  new : h.objs.size ≤ e
  obj : ∃ oe vs, h'.get? e = some oe ∧ oe.cls = .ref C ∧ oe.dict = some d ∧ oe.data = .fields vs ∧ vs[1]? = some .none ∧ vs[2]? = some .none
  dbig : h.objs.size ≤ d
  dne : d ≠ e
  ns : h'.Ns1 d (fun y => if y = "at" then some v else none)
section
variable {prog : Program} {w : World} {A : Around} {E : Value → Shared → Prop} {R : Result → Shared → Prop} {s : Shared} {K : Frag} {mg : Str → Option Value} {C fI : Addr}
end
end LowX_NoUse
end PySem
namespace L2
open PySem PySem.Spec PyProof.Rows
section
variable {X : Cx} {C fI : Addr}
/-- Low(e) -/
def tMkLow_NoUse (C : Addr) (ta : TA) : St → Hp → XK → Prop := fun σ H Q => ta σ H fun vs H1 => ∃ v, vs = [v] ∧ ∀ d, H1 d = none → Q (.ref C) (some d) (upd H1 d (.xd [(("at" : Str), v)]))
/-- raise Low(e) -/
def tRaiseLow_NoUse (C : Addr) (W : WX) (ta : TA) : TS := fun _ σ H => tMkLow_NoUse C ta σ H fun cls d H' => W cls d σ H'
end
end L2

namespace PySem
namespace LowX_NotTurned
open PySem.W PySem.Calls PyProof.Rows PySem.HandSPX
/-! ### the text of __init__ -/
def iA (p1 p2 : Pos) : Arguments := { posonlyargs := [], args := [{ arg := "self", annotation := none, pos := p1 }, { arg := "number", annotation := none, pos := p2 }], vararg := none, kwonlyargs := [], kw_defaults := [], kwarg := none, defaults := [] }
def iB (q1 q2 q3 q4 : Pos) : List Stmt := [.Assign [.Attribute (.Name "self" q1) "number" q2] (.Name "number" q3) q4]
def iS : Scope := { kind := .function, names := [(PySem.Str.ofString "self", .local), (PySem.Str.ofString "number", .local)], isGenerator := false, isCoroutine := false, more := [] }
/-- what the written part says of Low, at C, and of its __init__, at fI -/
structure LowTxt (K : Frag) (mg : Str → Option Value) (C fI : Addr) : Prop where
  gC : mg "NotTurned" = some (.ref C)
  cls : ∃ nm q N bs bm sn sub ab col dd k0 k1 k2 k3 k5, K.lookup C = some (excClassObj nm q C N bs bm true sn sub ab col dd k0 k1 k2 k3 k5 "ValueError.__new__") ∧ refsVE bm = true
  sa : findIn K (.ref C) "__setattr__" = some (some (.builtin "object.__setattr__"))
  ga : findIn K (.ref C) "__getattribute__" = some (some (.builtin "BaseException.__getattribute__"))
  gg : findIn K (.ref C) "__getattr__" = some none
  noN : findIn K (.ref C) "number" = some none
  iC : findIn K (.ref C) "__init__" = some (some (.ref fI))
  tC : typeIn K (.ref fI) = some (.type "function")
  kC : keepIn K (.ref C) = true
  exC : subIn K (.ref C) (.type "BaseException") = some true
  tyC : typeIn K (.ref C) = some (.type "type")
  hdC : hasDictIn K C = true
  te : exmOne K (.ref C) (.ref C) = some true
  fn : ∃ (oc : Value) (od : Option Addr) (doc pm : Value) (an : Option Addr) (cdv ct : Value) (osl : Array (Option Value)) (p1 p2 q1 q2 q3 q4 : Pos),
    K.lookup fI = some ⟨oc, od, .func (fnOf "__init__" "NotTurned.__init__" (iA p1 p2) (iB q1 q2 q3 q4) iS .none .none doc pm an cdv ct), osl⟩ ∧ codeIn K cdv "NotTurned.__init__" = true
/-- what __init__ leaves of a fresh exception at x -/
structure InitEnd (h h' : Heap) (x C dx t1 : Addr) (v : Value) : Prop where
  keep : ∀ b o, b ≠ x → h.get? b = some o → h'.get? b = some o
  obj : h'.get? x = some { cls := .ref C, dict := some dx, data := .fields #[.ref t1, .none, .none, .none, .bool false, .none] }
  dbig : h.objs.size ≤ dx
  dne : dx ≠ x
  ns : h'.Ns1 dx (fun y => if y = "number" then some v else none)
/-- a made Low -/
structure OwnMade (h h' : Heap) (e C d : Addr) (v : Value) : Prop where
  keep : ∀ b o, h.get? b = some o → h'.get? b = some o
  new : h.objs.size ≤ e
  obj : ∃ oe vs, h'.get? e = some oe ∧ oe.cls = .ref C ∧ oe.dict = some d ∧ oe.data = .fields vs ∧ vs[1]? = some .none
  dbig : h.objs.size ≤ d
  dne : d ≠ e
  ns : h'.Ns1 d (fun y => if y = "number" then some v else none)
section
variable {prog : Program} {w : World} {A : Around} {E : Value → Shared → Prop} {R : Result → Shared → Prop} {s : Shared} {K : Frag} {mg : Str → Option Value} {C fI : Addr}
end
end LowX_NotTurned
end PySem
namespace L2
open PySem PySem.Spec PyProof.Rows
section
variable {X : Cx} {C fI : Addr}
/-- Low(e) -/
def tMkLow_NotTurned (C : Addr) (ta : TA) : St → Hp → XK → Prop := fun σ H Q => ta σ H fun vs H1 => ∃ v, vs = [v] ∧ ∀ d, H1 d = none → Q (.ref C) (some d) (upd H1 d (.xd [(("number" : Str), v)]))
/-- raise Low(e) -/
def tRaiseLow_NotTurned (C : Addr) (W : WX) (ta : TA) : TS := fun _ σ H => tMkLow_NotTurned C ta σ H fun cls d H' => W cls d σ H'
end
end L2


set_option Elab.async false
set_option linter.all false
set_option maxRecDepth 100000
set_option maxHeartbeats 2000000
/-! Vs3: errors of the program's own. -/
namespace Vs
open PySem L2
open Classical in
/-- what does not hang on where the caught error stands -/
noncomputable def allEq {α : Type} (F : Xo → Option α) : Option α := if ∀ o, F o = F ⟨0, .none, none⟩ then F ⟨0, .none, none⟩ else none
theorem allEq_const {α : Type} {a : Option α} : allEq (fun _ => a) = a := by
  unfold allEq
  rw [if_pos fun _ => rfl]
def fRaise0 (c : Nat) : Ss := fun e => some (.ex ⟨c, none⟩ e)
def fRaise1 (c : Nat) (m : Sm D) : Ss := sbnd m fun d e => match d with
  | .int z => some (.ex ⟨c, some z⟩ e)
  | _ => none
section
variable {X : Cx} {κ : Kx} {W : WX}
abbrev veB : List Value := [.type "ValueError", .type "Exception", .type "BaseException", .type "object"]
theorem s_raise0 {c : Nat} {x m : Str} {j : Nat} {p p2 pos pos2 : Pos} (hc : X.calm = true) (hK : X.K = κ.K) (hf : κ.xf c = none) (tk : Takes X W) (gC : X.mg x = some (.ref (κ.xc c))) (q : PySem.W.excIn κ.K (κ.xc c) veB "ValueError.__new__" = true) (kC : PySem.W.keepIn κ.K (.ref (κ.xc c)) = true)
    (bP : PySem.W.subIn κ.K (.ref (κ.xc c)) (.type "BaseException") = some true) (tP : PySem.W.typeIn κ.K (.ref (κ.xc c)) = some (.type "type")) (hg : Gl X x) (hdb : (x == ("__debug__" : Str)) = false := by decide) :
    PS X (.Raise (some (.Call (.Name x p) [.Constant (.str m) j p2] [] pos)) none pos2) (tS κ W (fRaise0 c)) := by
  rw [← hK] at q kC bP tP
  refine PS.imp (ps_raise hc tk (pmk_own PySem.F.excBase_ValueError q gC kC (raises_own bP tP) hg hdb)) fun D σ H ⟨G, env, r, h⟩ => ?_
  exact h _ none σ H G r ⟨rfl, by rw [hf]⟩ Fr.refl
end
/-! ### try -/
def aftr (i : Nat) : Option SO → Option SO
  | some (.nx e) => some (.nx (e.set i .un))
  | some (.bk e) => some (.bk (e.set i .un))
  | some (.ct e) => some (.ct (e.set i .un))
  | some (.rt r) => some (.rt r)
  | some (.rv r e) => some (.rv r (e.set i .un))
  | _ => none
def noX : Option SO → Option SO
  | some (.ex _ _) => none
  | o => o
/-- except X as n -/
noncomputable def sTryAs (xs : Nat → Nat → Option Bool) (h i : Nat) (body : Ss) (suite : Xo → Ss) : Ss := fun e => match body e with
  | some (.ex x e1) => match xs x.c h with
    | some true => if i < e1.length then allEq fun o => aftr i (suite o (e1.set i (.sh (.xn o x)))) else none
    | some false => some (.ex x e1)
    | none => none
  | o => o
/-- except X -/
def sTry (xs : Nat → Nat → Option Bool) (h : Nat) (body suite : Ss) : Ss := fun e => match body e with
  | some (.ex x e1) => match xs x.c h with
    | some true => noX (suite e1)
    | some false => some (.ex x e1)
    | none => none
  | o => o
/-- the classes' kinship as the written part tells it -/
def XsOk (κ : Kx) (xs : Nat → Nat → Option Bool) (h : Nat) : Prop := ∀ c b, xs c h = some b → PySem.W.exmOne κ.K (.ref (κ.xc c)) (.ref (κ.xc h)) = some b
section
variable {X : Cx} {κ : Kx} {W : WX}
theorem Rep.goneS {H : Hp} {G : Gh} {σ : L2.St} {env : En} (r : Rep κ H G σ env) (i : Nat) : Rep κ H (G.put i []) (σ.set i none) (env.set i .un) ∧ Fr H G σ env H (G.put i []) (σ.set i none) (env.set i .un) := by
  have u : UnAt [i] (env.set i .un) := fun v hv s e => by
    have hv : v = i := by simpa using hv
    subst hv
    rcases set_look e with ⟨_, q⟩ | ⟨q, _⟩
    · exact q
    · exact (q rfl).elim
  have o : Off [i] σ (σ.set i none) := off_set (by simp)
  exact ⟨(r.drop1 i).off u o (List.length_set ..), (Fr.drop1 i).offR u o⟩
theorem SPost.aftr {i : Nat} {σ : L2.St} {H : Hp} {G : Gh} {env : En} {D0 : Ends} {o : Option SO} (q : SPost κ W σ H G env (aftr i o) D0) :
    SPost κ WF σ H G env o { nx := fun σ' H' => D0.nx (σ'.set i none) H', rt := D0.rt, bk := fun σ' H' => D0.bk (σ'.set i none) H', ct := fun σ' H' => D0.ct (σ'.set i none) H' } := by
  cases o with
  | none => exact q
  | some o => cases o with
    | nx e => exact fun σ' H' G' r f => q _ H' _ (r.goneS i).1 (f.trans (r.goneS i).2)
    | bk e => exact fun σ' H' G' r f => q _ H' _ (r.goneS i).1 (f.trans (r.goneS i).2)
    | ct e => exact fun σ' H' G' r f => q _ H' _ (r.goneS i).1 (f.trans (r.goneS i).2)
    | rt z => exact q
    | rv z e =>
      intro v σ' H' G' r rv f
      refine q v _ H' _ (r.goneS i).1 ?_ (f.trans (r.goneS i).2)
      have fr : ∀ a, Fre G' e a → Fre (G'.put i []) (e.set i .un) a := fun a h j t e1 m => by
        rcases set_look e1 with ⟨rfl, rfl⟩ | ⟨w, e2⟩
        · rw [put_at] at m; cases m
        · rw [put_ne w] at m; exact h j t e2 m
      cases z with
      | sh d => exact rv
      | ow l =>
        obtain ⟨a, xs, h1, h2, h3, h4, h5, h6⟩ := rv
        exact ⟨a, xs, h1, h2, h3, h4, fr a h5, h6⟩
      | tr o =>
        obtain ⟨F, h1, h2⟩ := rv
        exact ⟨F, h1, fun a m => ⟨fr a (h2 a m).1, (h2 a m).2⟩⟩
    | ex x e => exact q.elim
theorem SPost.noX {σ : L2.St} {H : Hp} {G : Gh} {env : En} {D0 : Ends} {o : Option SO} (q : SPost κ W σ H G env (noX o) D0) : SPost κ WF σ H G env o D0 := by
  cases o with
  | none => exact q
  | some o => cases o with
    | ex x e => exact q.elim
    | _ => exact q
variable {x n : Str} {h i : Nat} {xs : Nat → Nat → Option Bool} {body suite : List Stmt} {b₀ : Stmt} {np pos pos' : Pos} {mb : Ss} {ms : Xo → Ss} {m0 : Ss}
/-! ### the caught error asked -/
open Classical in
/-- e.f -/
noncomputable def fXf (xfn : Nat → Option Str) (o : Xo) (i : Nat) (f : Str) : Sm D := fun env => match env[i]? with
  | some (.sh (.xn o' x)) => if o' = o ∧ xfn x.c = some f then match x.a with
    | some z => some (.ok (.int z) env)
    | none => none
    else none
  | _ => none
/-- what the written part says of an error class, for isinstance -/
structure IsC (K : PySem.W.Frag) (C : Addr) : Prop where
  ic : PySem.W.isClsIn K C = true
  ga : PySem.W.findIn K (.ref C) "__getattribute__" = some (some (.builtin "BaseException.__getattribute__"))
  gg : PySem.W.findIn K (.ref C) "__getattr__" = some none
  sb : PySem.W.subIn K (.ref C) (.type "BaseException") = some true
  ha : PySem.W.findIn K (.ref C) "__class__" = some (some (.builtin "object.__class__"))
  mo : PySem.W.mroIn K C (.type "object") = some true
structure IsB (K : PySem.W.Frag) : Prop where
  hn : PySem.W.specialIn K (.builtin "object.__class__") "__get__" = some (some (.builtin "getset_descriptor.__get__"))
  ht : PySem.W.takesIn K (.builtin "object.__class__") = some true
def KsOk (κ : Kx) (us : List Value) (t : Nat → Option Bool) : Prop := ∀ c b, t c = some b → IsC κ.K (κ.xc c) ∧ PySem.W.kitAny κ.K (.ref (κ.xc c)) us = some b
def rIsX (κ : Kx) (cls : Value) (d : Option Addr) (a : Addr) : List V → Hp → VK → Prop := fun xs H Q => ∃ (c : V) (cv : Value) (b : Bool) (y : Ex), xs = [.ref a, c] ∧ ClsV c cv ∧ XR κ H y cls d ∧ IsC κ.K (κ.xc y.c) ∧ PySem.W.kitOne κ.K cls cv = some b ∧ Q (.bl b) H
def rIsXT (κ : Kx) (cls : Value) (d : Option Addr) (a : Addr) : List V → Hp → VK → Prop := fun xs H Q => ∃ (tp : Addr) (cs : List V) (us : List Value) (b : Bool) (y : Ex), xs = [.ref a, .ref tp] ∧ H tp = some (.tup cs) ∧ Paired ClsV cs us ∧ XR κ H y cls d ∧ IsC κ.K (κ.xc y.c) ∧ PySem.W.kitAny κ.K cls us = some b ∧ Q (.bl b) H
open Classical in
/-- isinstance(e, ..) -/
noncomputable def fXi (t : Nat → Option Bool) (o : Xo) (i : Nat) : Sm D := fun env => match env[i]? with
  | some (.sh (.xn o' x)) => if o' = o then match t x.c with
    | some b => some (.ok (.bl b) env)
    | none => none
    else none
  | _ => none
end
section
variable {X : Cx} {κ : Kx} {W : WX} {x : Str} {np : Pos} {i : Nat}
end
/-! ### a default -/
theorem RBs.snoc {κ : Kx} {H G : Hp} {m : Bool} {v : V} {d : D} (r : Rp κ G v d) : ∀ {ms : List Bool} {vs : List V} {ds : List D}, RBs κ H G ms vs ds → RBs κ H G (ms ++ [m]) (vs ++ [v]) (ds ++ [d])
  | _, _, _, .nil => by
    cases m with
    | true => exact .bo (.inl r) .nil
    | false => exact .sh r .nil
  | _, _, _, .sh a t => .sh a (RBs.snoc r t)
  | _, _, _, .bo a t => .bo a (RBs.snoc r t)
/-- a def whose last parameter has a number as its default -/
structure VFnD (P : Program) (w : World) (κ : Kx) (mg : Str → Option Value) (base : Heap) (x : Str) (k : Nat) (ms : List Bool) (g : FSem) (dv : Int) : Prop where
  ex : ∃ (f : Addr) (fd : FuncData) (ps : List Str), mg x = some (.ref f) ∧ PySem.W.keepIn κ.K (.ref f) = true ∧ FnOk P w κ.K mg base (L2.CX P w) k f fd ps (spV κ ms g) ∧ Binds κ.K fd ps [] ∧ ∃ ds, Vals [V.int dv] ds ∧ Binds κ.K fd ps ds
theorem VFnD.v {P : Program} {w : World} {κ : Kx} {mg : Str → Option Value} {base : Heap} {x : Str} {k : Nat} {ms : List Bool} {g : FSem} {dv : Int} (F : VFnD P w κ mg base x k ms g dv) : VFn P w κ mg base x k ms g := by
  obtain ⟨f, fd, ps, h1, h2, h3, h4, _⟩ := F.ex
  exact ⟨f, fd, ps, h1, h2, h3, h4⟩
def fCallD (g : FSem) (dv : Int) (m : Sm (List D)) : Sm Rs := bnd m fun ds e => match g (ds ++ [.int dv]) with
  | some (.rt r) => some (.ok r e)
  | some (.ex x) => some (.ex x e)
  | none => none
section
variable {X : Cx} {κ : Kx} {W : WX} {e : Expr} {es : List Expr} {ms : List Bool} {g : FSem} {mr : Sm (List D)} {k : Nat} {x : Str} {p pos : Pos} {dv : Int} {m : Bool}
end
theorem FunD.two {κ : Kx} {x qual : Str} {st : Stmt} {f : Addr} {fd : FuncData} {ps : List Str} {dv : Int} (F : FunD κ.K x qual (defArgs st) (defBody st) (defScope st) [V.int dv] [] f fd) (n : Nat) (hn : n + 1 = ps.length)
    (h1 : ∀ (T : Addr) (kV doc pm : Value) (an : Option Addr) (cdv ct : Value) (us : List Value) (d : Value), us.length = n → ∃ k, bindArgs (PySem.W.fnOf x qual (defArgs st) (defBody st) (defScope st) (.ref T) kV doc pm an cdv ct) ⟨us, []⟩ = seqItems? (.ref T) >>= k ∧ k (some #[d]) = pure (ps.zip (us ++ [d])))
    (h2 : ∀ (T : Addr) (kV doc pm : Value) (an : Option Addr) (cdv ct : Value) (us : List Value) (d : Value), us.length = n + 1 → ∃ k, bindArgs (PySem.W.fnOf x qual (defArgs st) (defBody st) (defScope st) (.ref T) kV doc pm an cdv ct) ⟨us, []⟩ = seqItems? (.ref T) >>= k ∧ k (some #[d]) = pure (ps.zip us)) :
    Binds κ.K fd ps [] ∧ ∃ ds, Vals [V.int dv] ds ∧ Binds κ.K fd ps ds := by
  constructor
  · obtain ⟨ds, hv, hb⟩ := F.binds1 (n + 1) 1 (by simp) (by simpa using hn) fun T kV doc pm an cdv ct us its hu hi => by
      match its, hi with
      | [d], _ =>
        obtain ⟨k, e1, e2⟩ := h2 T kV doc pm an cdv ct us d hu
        exact ⟨k, e1, by rw [show ([d] : List Value).drop 1 = [] from rfl, List.append_nil]; exact e2⟩
    cases hv
    exact hb
  · exact F.binds1 n 0 (by simp) (by simpa using hn) fun T kV doc pm an cdv ct us its hu hi => by
      match its, hi with
      | [d], _ => exact h1 T kV doc pm an cdv ct us d hu
/-! ### kinship from the written part -/
section
variable {K : PySem.W.Frag} {S C : Addr} {b : Bool}
end
end Vs


set_option Elab.async false
set_option linter.all false
set_option maxRecDepth 100000
set_option maxHeartbeats 2000000
/-! Vs4: more of the built-ins. -/
namespace Vs
open PySem L2
/-! ### < over data -/
def rLtD (K : PySem.W.Frag) : R2 := fun x y H Q => ∃ d e, Dp K H x d ∧ Dp K H y e ∧ PySem.W.alike d e = true ∧ d ≠ .none ∧ d.depth ≤ 64 ∧ Q (.bl (PySem.W.dataLt d e)) H
theorem op_ltD {X : Cx} (hu : X.A.units + 64 < cLine) : OpR X (compareOp .Lt) (rLtD X.K) := by
  intro pins s σ H x y v u Q I rx ry h
  obtain ⟨d, e, hd, he, ha, hn, hz, q⟩ := h
  obtain ⟨as, r1⟩ := Dp.reads I d x v hd rx
  obtain ⟨bs, r2⟩ := Dp.reads I e y u he ry
  exact PySem.W.lt_data r1 r2 ha hn (by omega) ⟨.bl _, H, I, rfl, q⟩
def dLt (x y : D) : Option Bool := if x.pl = true ∧ y.pl = true ∧ PySem.W.alike x.toP y.toP = true ∧ x.toP.depth ≤ 64 then some (PySem.W.dataLt x.toP y.toP) else none
def cLtA : D → D → Option Bool
  | .int i, .int j => some (decide (i < j))
  | .str a, .str b => some (decide (a < b))
  | .lst a, .lst b => dLt (.lst a) (.lst b)
  | .tup a, .tup b => dLt (.tup a) (.tup b)
  | _, _ => none
def rLtA (κ : Kx) : R2 := fun x y H Q => rCm (fun i j => decide (i < j)) (fun a b => decide (a < b)) x y H Q ∨ rLtD κ.K x y H Q
theorem o_ltA {X : Cx} {κ : Kx} (hK : X.K = κ.K) (hu : X.A.units + 64 < cLine) : OpR X (compareOp .Lt) (rLtA κ) := by
  unfold rLtA
  rw [← hK]
  exact OpR.or o_lt (op_ltD hu)
theorem dLt_of {κ : Kx} {x y : V} {dx dy : D} {z : Bool} {H G : Hp} {Q : VK} (hn : dx.toP ≠ .none) (e : dLt dx dy = some z) (s : Same G H) (rx : RBq κ H G x dx) (ry : RBq κ H G y dy) (q : Q (.bl z) H) : rLtD κ.K x y H Q := by
  unfold dLt at e
  split at e
  · rename_i h
    cases e
    exact ⟨_, _, rx.dp s h.1, ry.dp s h.2.1, h.2.2.1, hn, h.2.2.2, q⟩
  · cases e
theorem s_ltA {κ : Kx} : OpB κ (rLtA κ) cLtA := fun x y dx dy z H G Q e s rx ry q => by
  cases dx <;> cases dy <;> try (cases e; done)
  · rename_i i j
    exact .inl (s_cm x y (.int i) (.int j) z H G Q e s rx ry q)
  · rename_i i j
    exact .inl (s_cm x y (.str i) (.str j) z H G Q e s rx ry q)
  · exact .inr (dLt_of (by simp only [D.toP]; exact fun z => nomatch z) e s rx ry q)
  · exact .inr (dLt_of (by simp only [D.toP]; exact fun z => nomatch z) e s rx ry q)
/-! ### in, over data -/
def inD (x y : D) : Option Bool := match y with
  | .lst l => if x.okE = true ∧ (D.lst l).okE = true then some ((toPA l).any fun z => PyData.eqv z x.toP) else none
  | _ => none
/-- the one text within the other -/
def subT (v w : List Nat) : Bool := !(Builtin.Str.occurrences (S w) (S v) 0 (S w).length 1).isEmpty
def inT (x y : D) : Option Bool := match x, y with
  | .str v, .str w => some (subT v w)
  | _, _ => none
def cInA : D → D → Option Bool := fun x y => match cIn x y with
  | some b => some b
  | none => match inD x y with
    | some b => some b
    | none => inT x y
def cNinA : D → D → Option Bool := fun x y => match cInA x y with
  | some b => some (!b)
  | none => none
theorem units65 {k : Nat} {A : Around} (r : Room k A) : A.units + 65 < cLine := by have := r.un; omega
def rInT (neg : Bool) : R2 := fun x y H Q => ∃ i j, x = .str i ∧ y = .str j ∧ Q (.bl (if neg then !(!(Builtin.Str.occurrences j i 0 j.length 1).isEmpty) else !(Builtin.Str.occurrences j i 0 j.length 1).isEmpty)) H
def rInX (κ : Kx) : R2 := fun x y H Q => (rInA κ false x y H Q ∨ rInD κ.K x y H Q) ∨ rInT false x y H Q
def rNinX (κ : Kx) : R2 := fun x y H Q => (rInA κ true x y H Q ∨ rNotInD κ.K x y H Q) ∨ rInT true x y H Q
theorem inT_of {κ : Kx} {x y : V} {dx dy : D} {z : Bool} {H G : Hp} (e : inT dx dy = some z) (rx : RBq κ H G x dx) (ry : RBq κ H G y dy) : ∃ i j, x = .str i ∧ y = .str j ∧ z = !(Builtin.Str.occurrences j i 0 j.length 1).isEmpty := by
  cases dx <;> cases dy <;> try (cases e; done)
  rename_i v w
  cases e
  exact ⟨S v, S w, rx.str, ry.str, rfl⟩
theorem o_inA {X : Cx} {κ : Kx} (hK : X.K = κ.K) (hr : X.A.units + 65 < cLine) : OpR X (compareOp .In) (rInX κ) := by
  unfold rInX
  refine OpR.or (OpR.or (o_in hK) ?_) op_in_str
  rw [← hK]
  exact op_inD hr
theorem o_ninA {X : Cx} {κ : Kx} (hK : X.K = κ.K) (hr : X.A.units + 65 < cLine) : OpR X (compareOp .NotIn) (rNinX κ) := by
  unfold rNinX
  refine OpR.or (OpR.or (o_nin hK) ?_) op_notin_str
  rw [← hK]
  exact op_notInD hr
theorem inD_of {κ : Kx} {x y : V} {dx dy : D} {z : Bool} {H G : Hp} (e : inD dx dy = some z) (s : Same G H) (rx : RBq κ H G x dx) (ry : RBq κ H G y dy) : ∃ d ds, Dp κ.K H x d ∧ Dp κ.K H y (.list ds) ∧ SeqAt.shaped d = true ∧ SeqAt.shaped (.list ds) = true ∧ z = ds.any fun u => PyData.eqv u d := by
  cases dy with
  | lst l =>
    dsimp only [inD] at e
    by_cases o : dx.okE = true ∧ (D.lst l).okE = true
    · rw [if_pos o] at e
      cases e
      have hl := ry.dp s (okE_pl o.2)
      have hs := okE_shaped o.2
      simp only [D.toP] at hl hs
      exact ⟨_, _, rx.dp s (okE_pl o.1), hl, okE_shaped o.1, hs, rfl⟩
    · rw [if_neg o] at e; cases e
  | _ => cases e
theorem s_inA {κ : Kx} : OpB κ (rInX κ) cInA := fun x y dx dy z H G Q e s rx ry q => by
  unfold cInA at e
  cases h : cIn dx dy with
  | some b =>
    rw [h] at e
    cases e
    exact .inl (.inl (s_in x y dx dy _ H G Q h s rx ry q))
  | none =>
    rw [h] at e
    dsimp only at e
    cases h2 : inD dx dy with
    | some b =>
      rw [h2] at e
      cases e
      obtain ⟨d, ds, h1, h2, h3, h4, h5⟩ := inD_of h2 s rx ry
      exact .inl (.inr ⟨d, ds, h1, h2, h3, h4, h5 ▸ q⟩)
    | none =>
      rw [h2] at e
      obtain ⟨i, j, h1, h2, h3⟩ := inT_of e rx ry
      exact .inr ⟨i, j, h1, h2, h3 ▸ q⟩
theorem s_ninA {κ : Kx} : OpB κ (rNinX κ) cNinA := fun x y dx dy z H G Q e s rx ry q => by
  unfold cNinA at e
  cases h : cInA dx dy with
  | none => rw [h] at e; cases e
  | some b =>
    rw [h] at e
    cases e
    unfold cInA at h
    cases h2 : cIn dx dy with
    | some b2 =>
      rw [h2] at h
      cases h
      exact .inl (.inl (s_nin x y dx dy _ H G Q (by unfold cNin; rw [h2]) s rx ry q))
    | none =>
      rw [h2] at h
      dsimp only at h
      cases h3 : inD dx dy with
      | some b2 =>
        rw [h3] at h
        cases h
        obtain ⟨d, ds, h1, h2, h3, h4, h5⟩ := inD_of h3 s rx ry
        exact .inl (.inr ⟨d, ds, h1, h2, h3, h4, h5 ▸ q⟩)
      | none =>
        rw [h3] at h
        obtain ⟨i, j, h1, h2, h3⟩ := inT_of h rx ry
        exact .inr ⟨i, j, h1, h2, h3 ▸ q⟩
/-! ### reversed(range(..)) -/
section
variable {X : Cx} {κ : Kx} {W : WX} {tg a b e : Expr} {ma mb : Sm D} {p p2 pos pos2 : Pos}
def rngR (s : Int) (n : Nat) : List D := (List.range n).map fun (k : Nat) => D.int (s - (k : Int))
def fRr1 (m : Sm D) : Sm (List D) := bnd m fun d e => match d with
  | .int j => if j ≤ 1000000 ∧ -1000000 ≤ j then some (.ok (rngR (((j.toNat : Nat) : Int) - 1) j.toNat) e) else none
  | _ => none
def fRr2 (ma mb : Sm D) : Sm (List D) := bnd ma fun d => bnd mb fun f e => match d, f with
  | .int i, .int j => if (j ≤ 1000000 ∧ -1000000 ≤ j) ∧ i ≤ 1000000 ∧ -1000000 ≤ i then some (.ok (rngR (i + (((j - i).toNat : Nat) : Int) - 1) (j - i).toNat) e) else none
  | _, _ => none
end
/-! ### int(..) -/
def opInt : List D → Option Rs
  | [.int i] => some (.sh (.int i))
  | [.bl b] => some (.sh (.int (if b then 1 else 0)))
  | [.str w] => if w.length ≤ 640 then match PySem.intText? (S w) with
    | some n => some (.sh (.int n))
    | none => none
    else none
  | _ => none
def rIntA : List V → Hp → VK → Prop := fun xs H Q => ((∃ i, xs = [.int i] ∧ Q (.int i) H) ∨ ∃ k, xs = [.bl k] ∧ Q (.int (if k then 1 else 0)) H) ∨ ∃ a n, xs = [.str a] ∧ PySem.intText? a = some n ∧ a.length ≤ 640 ∧ Q (.int n) H
/-! ### a, b = x, y -/
def sPar (i j : Nat) (m : Sm (List D)) : Ss := sbnd m fun ds e => match ds with
  | [x, y] => if i < e.length ∧ j < e.length then some (.nx ((e.set i (.sh x)).set j (.sh y))) else none
  | _ => none
section
variable {X : Cx} {κ : Kx} {W : WX} {m : Sm (List D)}
end
/-! ### what is walked, of any kind -/
theorem PI.or {X : Cx} {tg e : Expr} {w w' : TI} (h : PI X tg e w) (h' : PI X tg e w') : PI X tg e (fun σ H R => w σ H R ∨ w' σ H R) :=
  ⟨fun pins s σ H R I q => q.elim (h.run pins s σ H R I) (h'.run pins s σ H R I)⟩
theorem PI.imp {X : Cx} {tg e : Expr} {w w' : TI} (h : PI X tg e w) (k : ∀ σ H R, w' σ H R → w σ H R) : PI X tg e w' := ⟨fun pins s σ H R I q => h.run pins s σ H R I (k σ H R q)⟩
def itD : D → Option (List D)
  | .lst l => some l
  | .tup l => some l
  | .str w => some (w.map fun c => .str [c])
  | .scr l => some (l.map D.int)
  | _ => none
def fItA (m : Sm D) : Sm (List D) := bnd m fun d e => match itD d with
  | some l => some (.ok l e)
  | none => none
def eItA (i : Nat) : Sm (List D) := fun env => match env[i]? with
  | some (.sh d) => match itD d with
    | some l => some (.ok l env)
    | none => none
  | some (.lk l) => some (.ok l env)
  | some (.bo l) => some (.ok l env)
  | _ => none
section
variable {X : Cx} {κ : Kx} {W : WX} {e tg : Expr} {m : Sm D} {pos : Pos}
theorem sc_yields {σ : L2.St} {N : Addr → Prop} {H : Hp} {G : Gh} {env : En} {a : Addr} {ns : List Int} (h : SqL κ.K G a (ns.map V.int)) : RI κ σ N H G env (Itl κ.K a) (ns.map D.int) := by
  refine ⟨fun _ => False, fun _ z => z.elim, fun H' G' _ sg sh i => ?_⟩
  have hl : SqL κ.K H' a (ns.map V.int) := same_l sh (same_l (gr sg) h)
  refine ⟨fun d hd => ?_, fun hi => ⟨_, hl, by rw [List.length_map]; simpa using hi⟩⟩
  rw [List.getElem?_map] at hd
  cases hw : ns[i]? with
  | none => rw [hw] at hd; cases hd
  | some n =>
    rw [hw] at hd
    cases hd
    have hx : (ns.map V.int)[i]? = some (V.int n) := by rw [List.getElem?_map, hw]; rfl
    exact ⟨⟨_, _, hl, hx⟩, fun y H2 ⟨e2, hy⟩ => .inl ⟨e2, by
      have := hy _ hl
      rw [hx] at this
      cases this
      exact .int n⟩⟩
theorem i_scr (hK : X.K = κ.K) (h : PE X e (tX κ W (RP κ) m)) : PI X tg e (tX κ W (RI κ) (bnd m fun d e => match d with
    | .scr l => some (.ok (l.map D.int) e)
    | _ => none)) := ⟨fun pins s σ H R I ⟨G, env, r, q⟩ => (pi_list h).run pins s σ H R I (bind_post r q fun d e1 v H1 G1 em r1 rv s1 f1 q1 => by
  cases d with
  | scr l =>
    cases rv with
    | scr h3 =>
      refine ⟨_, rfl, ⟨l.map V.int, ?_⟩, ?_⟩
      · rw [hK]; exact same_l r1.sub h3
      · rw [hK]; exact q1 _ H1 G1 r1 (sc_yields h3) (Grw.refl _) Fr.refl
  | _ => exact q1.elim)⟩
theorem i_any (hK : X.K = κ.K) (h : PE X e (tX κ W (RP κ) m)) : PI X tg e (tX κ W (RI κ) (fItA m)) :=
  PI.imp (PI.or (PI.or (i_list (l_of h)) (i_tup h)) (PI.or (i_str (v_bo h)) (i_scr hK h))) fun σ H R ⟨G, env, r, q⟩ => by
    unfold fItA bnd at q
    cases z : m env with
    | none => rw [z] at q; exact q.elim
    | some o => cases o with
      | ex x e1 =>
        rw [z] at q
        refine .inl (.inl ⟨G, env, r, ?_⟩)
        unfold fIt bnd
        rw [z]
        exact q
      | ok d e1 =>
        rw [z] at q
        cases d with
        | lst l =>
          refine .inl (.inl ⟨G, env, r, ?_⟩)
          unfold fIt bnd
          rw [z]
          exact q
        | tup l =>
          refine .inl (.inr ⟨G, env, r, ?_⟩)
          unfold fTp bnd
          rw [z]
          exact q
        | str l =>
          refine .inr (.inl ⟨G, env, r, ?_⟩)
          unfold fSg bnd
          rw [z]
          exact q
        | scr l =>
          refine .inr (.inr ⟨G, env, r, ?_⟩)
          unfold bnd
          rw [z]
          exact q
        | _ => exact q.elim
theorem i_anyN {i : Nat} {x : Str} (hK : X.K = κ.K) (h : PE X (.Name x pos) (tVar i)) : PI X tg (.Name x pos) (tX κ W (RI κ) (eItA i)) :=
  PI.imp (PI.or (i_list (l_name h)) (i_any hK (v_var h))) fun σ H R ⟨G, env, r, q⟩ => by
    unfold eItA at q
    cases z : env[i]? with
    | none => rw [z] at q; exact q.elim
    | some s =>
      rw [z] at q
      cases s with
      | un => exact q.elim
      | ow l => exact q.elim
      | io l => exact q.elim
      | tr l => exact q.elim
      | lk l =>
        refine .inl ⟨G, env, r, ?_⟩
        unfold eIt
        rw [z]
        exact q
      | bo l =>
        refine .inl ⟨G, env, r, ?_⟩
        unfold eIt
        rw [z]
        exact q
      | sh d =>
        refine .inr ⟨G, env, r, ?_⟩
        unfold fItA bnd eV
        rw [z]
        exact q
end
end Vs


set_option Elab.async false
set_option linter.all false
set_option maxRecDepth 100000
set_option maxHeartbeats 2000000
/-! Vs5: classes; things handed in to be changed. -/
namespace Vs
open PySem L2
/-! ### fields -/
/-- where a field stands, by the class's number -/
structure FldOk (κ : Kx) (f : Str) (tab : Nat → Option Nat) : Prop where
  ok : ∀ c k, tab c = some k → L2.Cls κ.K (κ.cl c) ∧ L2.NoAttr κ.K (κ.cl c) f ∧ (κ.fl c)[k]? = some f ∧ (κ.fl c).Nodup ∧ (κ.fl c).length < 1000
theorem lookup_at : ∀ {ys : List (Str × V)} {L : List Str} {n k : Nat} {f : Str} {v : V}, ys.map Prod.fst = L.take n → L.Nodup → L[k]? = some f → (ys.map Prod.snd)[k]? = some v → ys.lookup f = some v
  | [], L, n, k, f, v, _, _, _, h => by simp at h
  | (g, x) :: ys, [], n, k, f, v, e, _, _, _ => by simp at e
  | (g, x) :: ys, h :: L, 0, k, f, v, e, _, _, _ => by simp at e
  | (g, x) :: ys, h :: L, n + 1, 0, f, v, e, _, hk, hv => by
    simp only [List.map_cons, List.take_succ_cons, List.cons.injEq] at e
    simp only [List.getElem?_cons_zero, Option.some.injEq] at hk
    simp only [List.map_cons, List.getElem?_cons_zero, Option.some.injEq] at hv
    have e1 : g = f := e.1.trans hk
    simp only [List.lookup, e1, beq_self_eq_true, hv]
  | (g, x) :: ys, h :: L, n + 1, k + 1, f, v, e, nd, hk, hv => by
    simp only [List.map_cons, List.take_succ_cons, List.cons.injEq] at e
    simp only [List.getElem?_cons_succ] at hk
    simp only [List.map_cons, List.getElem?_cons_succ] at hv
    have nd' := List.nodup_cons.mp nd
    have ne : ¬ f = g := fun z => nd'.1 (by rw [← e.1, ← z]; exact List.mem_of_getElem? hk)
    have hb : (f == g) = false := by simpa using ne
    simp only [List.lookup, hb]
    exact lookup_at e.2 nd'.2 hk hv
theorem lookup_out {ys : List (Str × V)} {L : List Str} {n : Nat} {m : Str} (e : ys.map Prod.fst = L.take n) (h : m ∉ L) : ys.lookup m = none := by
  cases q : ys.lookup m with
  | none => rfl
  | some v =>
    exfalso
    refine h (List.mem_of_mem_take (i := n) ?_)
    rw [← e]
    clear e h
    induction ys with
    | nil => simp at q
    | cons y ys ih =>
      obtain ⟨g, x⟩ := y
      simp only [List.lookup] at q
      by_cases z : (m == g) = true
      · have z' : m = g := by simpa using z
        subst z'
        exact List.mem_cons_self
      · rw [Bool.not_eq_true] at z
        rw [z] at q
        exact List.mem_cons_of_mem _ (ih q)
/-- e.f of what all may hold -/
def fFld (tab : Nat → Option Nat) (m : Sm D) : Sm D := bnd m fun d e => match d with
  | .ob c ds => match tab c with
    | some k => match ds[k]? with
      | some x => some (.ok x e)
      | none => none
    | none => none
  | _ => none
section
variable {X : Cx} {κ : Kx} {W : WX} {e : Expr} {m : Sm D} {f : Str} {pos : Pos} {tab : Nat → Option Nat}
theorem v_fld (hf : FldOk κ f tab) (hK : X.K = κ.K) (he : PE X e (tX κ W (RP κ) m)) (hb : attributeBase e f X.env (eval e X.env) = eval e X.env := by rfl) : PE X (.Attribute e f pos) (tX κ W (RP κ) (fFld tab m)) :=
  PE.imp (pe_fld he hb) fun σ H Q ⟨G, env, r, q⟩ => bind_post r q fun d e1 x H1 G1 _ r1 rx s1 f1 q1 => by
    cases d with
    | ob c ds =>
      dsimp only at q1
      cases w : tab c with
      | none => rw [w] at q1; exact q1.elim
      | some k =>
        rw [w] at q1
        dsimp only at q1
        cases y : ds[k]? with
        | none => rw [y] at q1; exact q1.elim
        | some z =>
          rw [y] at q1
          obtain ⟨h1, h2, h3, h4, _⟩ := hf.ok c k w
          cases rx with
          | ob g1 g2 g3 =>
            obtain ⟨v, hv, rv⟩ := g3.getD y
            rw [hK]
            exact ⟨_, _, _, _, v, rfl, r1.sub _ _ g1, h1, h2, lookup_at g2 h4 h3 hv, q1 v H1 G1 r1 rv (Grw.refl _) Fr.refl⟩
    | _ => exact q1.elim
/-- an own object at slot i -/
def obAt (e : En) (i : Nat) : Option (Nat × List Fd) := match e[i]? with
  | some (.io (.ob c fs)) => some (c, fs)
  | some (.tr (.ob c fs)) => some (c, fs)
  | _ => none
theorem obAt_of {e : En} {i c : Nat} {fs : List Fd} (h : obAt e i = some (c, fs)) : ∃ s, e[i]? = some s ∧ getO s = some (.ob c fs) := by
  unfold obAt at h
  split at h
  · rename_i c' fs' q; cases h; exact ⟨_, q, rfl⟩
  · rename_i c' fs' q; cases h; exact ⟨_, q, rfl⟩
  · cases h
def eFd (i : Nat) (tab : Nat → Option Nat) (e : En) : Option Fd := match obAt e i with
  | some (c, fs) => match tab c with
    | some k => fs[k]?
    | none => none
  | none => none
/-- self.f, given away, looked at -/
def eFV (i : Nat) (tab : Nat → Option Nat) : Sm D := fun e => match eFd i tab e with
  | some (.sh d) => some (.ok d e)
  | _ => none
def eFB (i : Nat) (tab : Nat → Option Nat) : Sm D := fun e => match eFd i tab e with
  | some f => some (.ok f.d e)
  | none => none
theorem RFs.at {H G : Hp} : ∀ {vs : List V} {fs : List Fd} {F : List Addr}, RFs κ H G vs fs F → ∀ {k : Nat} {x : Fd}, fs[k]? = some x → ∃ v, vs[k]? = some v ∧ ((∃ d, x = .sh d ∧ Rp κ G v d) ∨ ∃ a xs l, x = .ow l ∧ v = .ref a ∧ H a = some (.lst xs) ∧ G a = none ∧ RpA κ G xs l ∧ a ∈ F)
  | _, _, _, .nil, k, x, h => by simp at h
  | _, _, _, .sh r t, 0, x, h => by
    simp only [List.getElem?_cons_zero, Option.some.injEq] at h
    subst h
    exact ⟨_, rfl, .inl ⟨_, rfl, r⟩⟩
  | _, _, _, .ow h1 h2 h3 h4 t, 0, x, h => by
    simp only [List.getElem?_cons_zero, Option.some.injEq] at h
    subst h
    exact ⟨_, rfl, .inr ⟨_, _, _, rfl, rfl, h1, h2, h3, List.mem_cons_self⟩⟩
  | _, _, _, .sh r t, k + 1, x, h => by
    obtain ⟨v, h1, h2⟩ := RFs.at t (by simpa using h)
    exact ⟨v, by simpa using h1, h2⟩
  | _, _, _, .ow g1 g2 g3 g4 t, k + 1, x, h => by
    obtain ⟨v, h1, h2⟩ := RFs.at t (by simpa using h)
    refine ⟨v, by simpa using h1, ?_⟩
    rcases h2 with h2 | ⟨a, xs, l, h3, h4, h5, h6, h7, h8⟩
    · exact .inl h2
    · exact .inr ⟨a, xs, l, h3, h4, h5, h6, h7, List.mem_cons_of_mem _ h8⟩
theorem RO.ob_inv {H G : Hp} {v : V} {c : Nat} {fs : List Fd} {F : List Addr} (r : RO κ H G v (.ob c fs) F) : ∃ a dx ys F', v = .ref a ∧ F = a :: F' ∧ H a = some (.ins (κ.cl c) dx ys) ∧ G a = none ∧ ys.map Prod.fst = (κ.fl c).take fs.length ∧ RFs κ H G (ys.map Prod.snd) fs F' ∧ a ∉ F' := by
  cases r with
  | ob h1 h2 h3 h4 h5 => exact ⟨_, _, _, _, rfl, rfl, h1, h2, h3, h4, h5⟩
/-- what stands at an own object's slot -/
theorem ob_at {σ : L2.St} {H : Hp} {G : Gh} {env : En} {i c : Nat} {fs : List Fd} (r : Rep κ H G σ env) (h : obAt env i = some (c, fs)) : ∃ s a dx ys F', env[i]? = some s ∧ getO s = some (.ob c fs) ∧ σ[i]? = some (some (.ref a)) ∧ G.fp i = a :: F' ∧ H a = some (.ins (κ.cl c) dx ys) ∧ G.g a = none ∧ ys.map Prod.fst = (κ.fl c).take fs.length ∧ RFs κ H G (ys.map Prod.snd) fs F' ∧ a ∉ F' := by
  obtain ⟨s, e, g⟩ := obAt_of h
  obtain ⟨v, h1, ro⟩ := (r.slot i s e).th (getO_th g).1
  obtain ⟨a, dx, ys, F', rfl, h2, h3, h4, h5, h6, h7⟩ := ro.ob_inv
  exact ⟨s, a, dx, ys, F', e, g, h1, h2, h3, h4, h5, h6, h7⟩
end
/-! ### a field stored -/
theorem putF_names {f : Str} {v : V} : ∀ {ys : List (Str × V)} {L : List Str} {n k : Nat}, ys.map Prod.fst = L.take n → n ≤ L.length → L.Nodup → L[k]? = some f → k ≤ n →
    (putF f v ys).map Prod.fst = L.take (if k < n then n else n + 1) ∧ (putF f v ys).map Prod.snd = if k < n then (ys.map Prod.snd).set k v else ys.map Prod.snd ++ [v]
  | [], L, 0, k, e, _, _, hk, hn => by
    obtain rfl : k = 0 := by omega
    cases L with
    | nil => simp at hk
    | cons h L =>
      simp only [List.getElem?_cons_zero, Option.some.injEq] at hk
      subst hk
      simp [putF]
  | [], L, n + 1, k, e, hl, _, hk, hn => by
    cases L with
    | nil => simp at hl
    | cons h L => simp at e
  | (g, x) :: ys, L, 0, k, e, _, _, _, _ => by simp at e
  | (g, x) :: ys, [], n + 1, k, e, _, _, _, _ => by simp at e
  | (g, x) :: ys, h :: L, n + 1, 0, e, hl, nd, hk, hn => by
    simp only [List.map_cons, List.take_succ_cons, List.cons.injEq] at e
    simp only [List.getElem?_cons_zero, Option.some.injEq] at hk
    have e1 : g = f := e.1.trans hk
    simp only [putF, e1, if_true, List.map_cons, Nat.zero_lt_succ, List.set_cons_zero, List.take_succ_cons, e.2]
    exact ⟨by rw [← hk], trivial⟩
  | (g, x) :: ys, h :: L, n + 1, k + 1, e, hl, nd, hk, hn => by
    simp only [List.map_cons, List.take_succ_cons, List.cons.injEq] at e
    simp only [List.getElem?_cons_succ] at hk
    have nd' := List.nodup_cons.mp nd
    have ne : ¬ g = f := fun z => nd'.1 (by rw [← e.1, z]; exact List.mem_of_getElem? hk)
    obtain ⟨i1, i2⟩ := putF_names (v := v) e.2 (by simpa using hl) nd'.2 hk (by omega)
    have c : (k + 1 < n + 1) = (k < n) := by rw [Nat.add_lt_add_iff_right]
    simp only [putF, if_neg ne, List.map_cons, i1, i2, c]
    by_cases w : k < n
    · simp only [if_pos w, List.take_succ_cons, List.set_cons_succ, e.1]; exact ⟨trivial, trivial⟩
    · simp only [if_neg w, List.take_succ_cons, List.cons_append, e.1]; exact ⟨trivial, trivial⟩
section
variable {κ : Kx} {H G : Hp}
theorem RFs.len : ∀ {vs : List V} {fs : List Fd} {F : List Addr}, RFs κ H G vs fs F → vs.length = fs.length
  | _, _, _, .nil => rfl
  | _, _, _, .sh _ t => by simp [RFs.len t]
  | _, _, _, .ow _ _ _ _ t => by simp [RFs.len t]
/-- a field replaced by a shared value, by a new own list -/
theorem RFs.setS {v : V} {d : D} (r : Rp κ G v d) : ∀ {vs : List V} {fs : List Fd} {F : List Addr} (k : Nat), RFs κ H G vs fs F → ∃ F', RFs κ H G (vs.set k v) (fs.set k (.sh d)) F' ∧ ∀ a, a ∈ F' → a ∈ F
  | _, _, _, k, .nil => ⟨[], by simpa using RFs.nil, fun a m => m⟩
  | _, _, _, 0, .sh _ t => ⟨_, .sh r t, fun a m => m⟩
  | _, _, _, 0, .ow _ _ _ _ t => ⟨_, .sh r t, fun a m => List.mem_cons_of_mem _ m⟩
  | _, _, _, k + 1, .sh q t => by
    obtain ⟨F', h1, h2⟩ := RFs.setS r k t
    exact ⟨F', .sh q h1, h2⟩
  | _, _, _, k + 1, .ow q1 q2 q3 q4 t => by
    obtain ⟨F', h1, h2⟩ := RFs.setS r k t
    exact ⟨_, .ow q1 q2 q3 (fun m => q4 (h2 _ m)) h1, fun a m => by
      rcases List.mem_cons.mp m with e | m
      · rw [e]; exact List.mem_cons_self
      · exact List.mem_cons_of_mem _ (h2 a m)⟩
theorem RFs.setL {b : Addr} {xs : List V} {l : List D} (hb : H b = some (.lst xs)) (gb : G b = none) (r : RpA κ G xs l) : ∀ {vs : List V} {fs : List Fd} {F : List Addr} (k : Nat), b ∉ F → k < fs.length → RFs κ H G vs fs F → ∃ F', RFs κ H G (vs.set k (.ref b)) (fs.set k (.ow l)) F' ∧ ∀ a, a ∈ F' → a ∈ F ∨ a = b
  | _, _, _, k, _, hk, .nil => by simp at hk
  | _, _, _, 0, nb, _, .sh _ t => ⟨_, .ow hb gb r nb t, fun a m => by
      rcases List.mem_cons.mp m with e | m
      · exact .inr e
      · exact .inl m⟩
  | _, _, _, 0, nb, _, .ow _ _ _ _ t => ⟨_, .ow hb gb r (fun m => nb (List.mem_cons_of_mem _ m)) t, fun a m => by
      rcases List.mem_cons.mp m with e | m
      · exact .inr e
      · exact .inl (List.mem_cons_of_mem _ m)⟩
  | _, _, _, k + 1, nb, hk, .sh q t => by
    obtain ⟨F', h1, h2⟩ := RFs.setL hb gb r k nb (by simpa using hk) t
    exact ⟨F', .sh q h1, h2⟩
  | _, _, _, k + 1, nb, hk, .ow q1 q2 q3 q4 t => by
    obtain ⟨F', h1, h2⟩ := RFs.setL hb gb r k (fun m => nb (List.mem_cons_of_mem _ m)) (by simpa using hk) t
    refine ⟨_, .ow q1 q2 q3 (fun m => ?_) h1, fun a m => ?_⟩
    · rcases h2 _ m with m | e
      · exact q4 m
      · exact nb (by rw [← e]; exact List.mem_cons_self)
    · rcases List.mem_cons.mp m with e | m
      · rw [e]; exact .inl List.mem_cons_self
      · rcases h2 a m with m | e
        · exact .inl (List.mem_cons_of_mem _ m)
        · exact .inr e
theorem RFs.addS {v : V} {d : D} (r : Rp κ G v d) : ∀ {vs : List V} {fs : List Fd} {F : List Addr}, RFs κ H G vs fs F → RFs κ H G (vs ++ [v]) (fs ++ [.sh d]) F
  | _, _, _, .nil => .sh r .nil
  | _, _, _, .sh q t => .sh q (RFs.addS r t)
  | _, _, _, .ow q1 q2 q3 q4 t => .ow q1 q2 q3 q4 (RFs.addS r t)
theorem RFs.addL {b : Addr} {xs : List V} {l : List D} (hb : H b = some (.lst xs)) (gb : G b = none) (r : RpA κ G xs l) : ∀ {vs : List V} {fs : List Fd} {F : List Addr}, b ∉ F → RFs κ H G vs fs F → ∃ F', RFs κ H G (vs ++ [.ref b]) (fs ++ [.ow l]) F' ∧ ∀ a, a ∈ F' → a ∈ F ∨ a = b
  | _, _, _, nb, .nil => ⟨[b], .ow hb gb r nb .nil, fun a m => .inr (List.mem_singleton.mp m)⟩
  | _, _, _, nb, .sh q t => by
    obtain ⟨F', h1, h2⟩ := RFs.addL hb gb r nb t
    exact ⟨F', .sh q h1, h2⟩
  | _, _, _, nb, .ow q1 q2 q3 q4 t => by
    obtain ⟨F', h1, h2⟩ := RFs.addL hb gb r (fun m => nb (List.mem_cons_of_mem _ m)) t
    refine ⟨_, .ow q1 q2 q3 (fun m => ?_) h1, fun a m => ?_⟩
    · rcases h2 _ m with m | e
      · exact q4 m
      · exact nb (by rw [← e]; exact List.mem_cons_self)
    · rcases List.mem_cons.mp m with e | m
      · rw [e]; exact .inl List.mem_cons_self
      · rcases h2 a m with m | e
        · exact .inl (List.mem_cons_of_mem _ m)
        · exact .inr e
end
def Rs.fd : Rs → Option Fd
  | .sh d => some (.sh d)
  | .ow l => some (.ow l)
  | .tr _ => none
def setF (fs : List Fd) (k : Nat) (x : Fd) : List Fd := if k < fs.length then fs.set k x else fs ++ [x]
/-- self.f = value -/
def sFldS (i : Nat) (tab : Nat → Option Nat) (m : Sm Rs) : Ss := sbnd m fun r e => match obAt e i with
  | some (c, fs) => match tab c with
    | some k => if k ≤ fs.length then match r.fd with
      | some x => match e[i]? with
        | some s => some (.nx (e.set i (setO s (.ob c (setF fs k x)))))
        | none => none
      | none => none
      else none
    | none => none
  | none => none
section
variable {κ : Kx} {σ σ0 : L2.St} {H H1 H2 : Hp} {G G1 : Gh} {env e1 : En}
/-- the own thing at slot i changed, behind what was done before: what it takes in may be new since then -/
theorem chg_all (r1 : Rep κ H1 G1 σ e1) (f1 : Fr H G σ0 env H1 G1 σ e1) {i : Nat} {s s' : Sl} {o o' : O} {F : List Addr} {v : V} (e : e1[i]? = some s) (hm : s.mut = true) (t : s.th = some o) (t' : s'.th = some o') (hf : s'.fix = true → s'.was s) (hm' : s'.mut = true) (ea : σ[i]? = some (some v))
    (h : RO κ H2 G1 v o' F) (hk : ∀ a u, H1 a = some u → a ∉ G1.fp i → H2 a = some u) (hF : ∀ a, a ∈ F → a ∈ G1.fp i ∨ (Fre G1 e1 a ∧ Nw H G env a)) :
    ∃ G', Rep κ H2 G' σ (e1.set i s') ∧ Fr H G σ0 env H2 G' σ (e1.set i s') := by
  have hi : i < e1.length := (List.getElem?_eq_some_iff.mp e).1
  have me : ∀ a, a ∈ G1.fp i → Own G1 e1 i a := fun a m => ⟨s, o, e, t, m⟩
  have sub : Sub κ G1.g H2 := ⟨fun a u q => hk a u (r1.sub a u q) fun m => (by rw [(r1.own (me a m)).2] at q; cases q), r1.sub.n, tabs_of r1.sub.t fun a u q np => hk a u q fun m => np (r1.pl e m q)⟩
  have re := r1.re (s := s') (F := F) (H' := H2) (g' := G1.g) (x := some v) hi sub (Same.refl _) (RSl.of t' rfl h) (fun j u a w e2 m o' h => hk a o' h fun m' => w (r1.inj i j a u (me a m') e2 m)) (fun j a w ow => (r1.own ow).2) fun a m j u w e2 m2 => by
    rcases hF a m with q | q
    · exact w (r1.inj i j a u (me a q) e2 m2)
    · exact q.1 j u e2 m2
  rw [set_same ea] at re
  have mi : ∀ a, a ∈ G1.fp i → ∀ u, H a = some u → Mt G env a := fun a m u h => f1.mm a u h ⟨i, s, e, hm, m⟩
  refine ⟨_, re, fun a u h n => hk_trans (f1.hk a u h n) fun o' e => ⟨o', hk a o' e fun m => n (mi a m u h), fun _ => rfl⟩, f1.gk, f1.gn, fun a u h m => ?_, fun j u q e2 => ?_⟩
  · obtain ⟨j, u', e2, hm2, m⟩ := m
    have m : a ∈ (G1.put i F).fp j := m
    rcases set_look e2 with ⟨rfl, rfl⟩ | ⟨w, e3⟩
    · rw [put_at] at m
      rcases hF a m with q | q
      · exact mi a q u h
      · exact q.2 u h
    · rw [put_ne w] at m
      exact f1.mm a u h ⟨j, u', e3, hm2, m⟩
  · rcases set_look e2 with ⟨rfl, rfl⟩ | ⟨w, e3⟩
    · obtain ⟨s0, q1, q2, q3, q4⟩ := f1.lk j s (was_fix q (hf q)) e
      exact ⟨s0, q1, was_trans q (hf q) q2, q3, fun _ z => by rw [hm'] at z; cases z⟩
    · obtain ⟨s0, q1, q2, q3, q4⟩ := f1.lk j u q e3
      refine ⟨s0, q1, q2, q3, fun y1 y2 => ?_⟩
      show (G1.put i F).fp j = _
      rw [put_ne w]
      exact q4 y1 y2
/-- .. of a field -/
theorem fld_all {f : Str} {tab : Nat → Option Nat} (hf : FldOk κ f tab) (r1 : Rep κ H1 G1 σ e1) (f1 : Fr H G σ0 env H1 G1 σ e1) {i c k : Nat} {fs : List Fd} {y : Fd} {s : Sl} {v : V} {z : Rs} (h : obAt e1 i = some (c, fs)) (es : e1[i]? = some s) (w : tab c = some k) (hk : k ≤ fs.length) (hz : z.fd = some y) (rv : RV κ σ (Nw H G env) H1 G1 e1 v z) :
    ∃ a dx ys, σ[i]? = some (some (.ref a)) ∧ H1 a = some (.ins (κ.cl c) dx ys) ∧ ys.length < 1000 ∧ ∃ G', Rep κ (upd H1 a (.ins (κ.cl c) dx (putF f v ys))) G' σ (e1.set i (setO s (.ob c (setF fs k y)))) ∧ Fr H G σ0 env (upd H1 a (.ins (κ.cl c) dx (putF f v ys))) G' σ (e1.set i (setO s (.ob c (setF fs k y)))) := by
  obtain ⟨s', a, dx, ys, F', es', g, h4, h5, h6, h7, h8, h9, h10⟩ := ob_at r1 h
  rw [es] at es'
  cases es'
  obtain ⟨g1, g2, g3, g4, g5⟩ := hf.ok c k w
  have ln : ys.length = fs.length := by rw [← h9.len, List.length_map]
  have lL : fs.length ≤ (κ.fl c).length := by
    have := congrArg List.length h8
    rw [List.length_map, List.length_take] at this
    omega
  obtain ⟨n1, n2⟩ := putF_names (v := v) h8 lL g4 g3 hk
  have names : (putF f v ys).map Prod.fst = (κ.fl c).take (setF fs k y).length := by
    rw [n1]
    unfold setF
    by_cases hlt : k < fs.length
    · rw [if_pos hlt, if_pos hlt, List.length_set]
    · rw [if_neg hlt, if_neg hlt, List.length_append, List.length_singleton]
  have hk' : ∀ b u, b ≠ a → H1 b = some u → upd H1 a (.ins (κ.cl c) dx (putF f v ys)) b = some u := fun b u nb hu => by rw [upd_ne nb]; exact hu
  have carry : ∀ {vs : List V} {fs : List Fd} {F : List Addr}, a ∉ F → RFs κ H1 G1 vs fs F → RFs κ (upd H1 a (.ins (κ.cl c) dx (putF f v ys))) G1 vs fs F := fun {vs fs F} na t => t.grow (Same.refl _) (fun b u m hu => hk' b u (fun z => na (z ▸ m)) hu) fun b m => (t.own m).2
  have fields : ∃ F2, RFs κ (upd H1 a (.ins (κ.cl c) dx (putF f v ys))) G1 ((putF f v ys).map Prod.snd) (setF fs k y) F2 ∧ a ∉ F2 ∧ ∀ b, b ∈ F2 → b ∈ F' ∨ (Fre G1 e1 b ∧ Nw H G env b) := by
    rw [n2]
    cases z with
    | sh d =>
      cases hz
      unfold setF
      by_cases hlt : k < fs.length
      · rw [if_pos hlt, if_pos hlt]
        obtain ⟨F2, q1, q2⟩ := RFs.setS (κ := κ) (H := H1) (G := G1) (v := v) (d := d) rv k h9
        exact ⟨F2, carry (fun m => h10 (q2 _ m)) q1, fun m => h10 (q2 _ m), fun b m => .inl (q2 b m)⟩
      · rw [if_neg hlt, if_neg hlt]
        exact ⟨F', carry h10 (RFs.addS (κ := κ) (H := H1) (G := G1) (v := v) (d := d) rv h9), h10, fun b m => .inl m⟩
    | ow l =>
      cases hz
      obtain ⟨b, xs, rfl, b2, b3, b4, b5, b6⟩ := rv
      have nb : b ∉ F' := fun m => b5 i s es (by rw [h5]; exact List.mem_cons_of_mem _ m)
      have nba : b ≠ a := fun m => b5 i s es (by rw [h5, m]; exact List.mem_cons_self)
      unfold setF
      by_cases hlt : k < fs.length
      · rw [if_pos hlt, if_pos hlt]
        obtain ⟨F2, q1, q2⟩ := RFs.setL (κ := κ) (H := H1) (G := G1) b2 b3 b4 k nb hlt h9
        have na : a ∉ F2 := fun m => by
          rcases q2 _ m with m | e
          · exact h10 m
          · exact nba e.symm
        exact ⟨F2, carry na q1, na, fun c m => by
          rcases q2 c m with m | e
          · exact .inl m
          · rw [e]; exact .inr ⟨b5, b6⟩⟩
      · rw [if_neg hlt, if_neg hlt]
        obtain ⟨F2, q1, q2⟩ := RFs.addL (κ := κ) (H := H1) (G := G1) b2 b3 b4 nb h9
        have na : a ∉ F2 := fun m => by
          rcases q2 _ m with m | e
          · exact h10 m
          · exact nba e.symm
        exact ⟨F2, carry na q1, na, fun c m => by
          rcases q2 c m with m | e
          · exact .inl m
          · rw [e]; exact .inr ⟨b5, b6⟩⟩
    | tr o => cases hz
  obtain ⟨F2, t1, t2, t3⟩ := fields
  have ro : RO κ (upd H1 a (.ins (κ.cl c) dx (putF f v ys))) G1 (.ref a) (.ob c (setF fs k y)) (a :: F2) := .ob upd_same h7 names t1 t2
  exact ⟨a, dx, ys, h4, h6, by rw [ln]; omega, chg_all r1 f1 (s' := setO s (.ob c (setF fs k y))) es (getO_th g).2 (getO_th g).1 setO_th.1 (setO_was g) setO_th.2 h4 ro (fun b u hu m => hk' b u (fun w => m (by rw [h5, w]; exact List.mem_cons_self)) hu) fun b m => by
    rcases List.mem_cons.mp m with e | m
    · rw [e, h5]; exact .inl List.mem_cons_self
    · rcases t3 b m with m | q
      · rw [h5]; exact .inl (List.mem_cons_of_mem _ m)
      · exact .inr q⟩
end
section
variable {X : Cx} {κ : Kx} {W : WX} {e : Expr} {m : Sm D} {mr : Sm Rs} {f : Str} {pos apos np : Pos} {tab : Nat → Option Nat}
theorem s_fld {i : Nat} {x : Str} (hf : FldOk κ f tab) (hK : X.K = κ.K) (ho : PE X (.Name x np) (tVar i)) (hv : PE X e (tI κ W (RV κ) mr)) (hs : swapsWith e (some (.Attribute (.Name x np) f apos)) pos.line X.env = pure false := by rfl) :
    PS X (.Assign [.Attribute (.Name x np) f apos] e pos) (tS κ W (sFldS i tab mr)) := PS.imp (ps_fld ho hv hs) fun D σ H ⟨G, env, r, q⟩ => by
  refine ⟨G, env, r, ?_⟩
  unfold sFldS sbnd at q
  cases em : mr env with
  | none => rw [em] at q; exact q
  | some o => cases o with
    | ex x e1 =>
      rw [em] at q
      exact fun c d H' G' a b g => q c d σ H' G' a b g
    | ok z e1 =>
      rw [em] at q
      intro v H1 G1 r1 rv f1
      dsimp only at q
      cases h : obAt e1 i with
      | none => rw [h] at q; exact q.elim
      | some cf =>
        obtain ⟨c, fs⟩ := cf
        rw [h] at q
        dsimp only at q
        cases w : tab c with
        | none => rw [w] at q; exact q.elim
        | some k =>
          rw [w] at q
          dsimp only at q
          by_cases hk : k ≤ fs.length
          · rw [if_pos hk] at q
            cases hz : z.fd with
            | none => rw [hz] at q; exact q.elim
            | some y =>
              rw [hz] at q
              dsimp only at q
              cases es : e1[i]? with
              | none => rw [es] at q; exact q.elim
              | some s =>
                rw [es] at q
                obtain ⟨a, dx, ys, h1, h2, h3, G2, r2, f2⟩ := fld_all hf r1 f1 h es w hk hz rv
                obtain ⟨g1, g2, _⟩ := hf.ok c k w
                exact ⟨_, h1, a, _, dx, ys, rfl, h2, by rw [hK]; exact g1, by rw [hK]; exact g2, h3, q σ _ G2 r2 f2⟩
          · rw [if_neg hk] at q; exact q.elim
end
end Vs


set_option Elab.async false
set_option linter.all false
set_option maxRecDepth 100000
set_option maxHeartbeats 2000000
/-! Vs6: methods, makes, calls that change. -/
namespace Vs
open PySem L2 PyProof.Rows
/-! ### rules of the hand layer, with the wish at the slots -/
section
variable {X : Cx} {k : Nat} {fn C : Addr} {fd : FuncData} {ps : List Str} {sp : Sp} {E : L2.St → XK} {x m : Str} {p pos apos : Pos} {e o : Expr} {es : List Expr} {ta : TE} {t : TA}
/-- o.m(..), the class by the instance -/
def tMethV (X : Cx) (m : Str) (E : L2.St → XK) (ta : TE) (t : TA) : TE := fun σ H Q => ta σ H fun x H1 => ∃ (C g : Addr) (fd : FuncData) (ps : List Str) (k : Nat) (sp : Sp) (a dx : Addr) (fs : List (Str × V)), x = .ref a ∧ H1 a = some (.ins C dx fs) ∧ fs.lookup m = none ∧
  L2.Cls X.K C ∧ L2.Meth X.K C m g ∧ FnOk X.prog X.w X.K X.mg X.base (L2.CX X.prog X.w) k g fd ps sp ∧ Room k X.A ∧ Binds X.K fd ps [] ∧ t σ H1 fun vs H2 => sp (x :: vs) H2 Q (E σ)
theorem pe_methV {pl : Sem Bool} (hx : ∀ σ, PassesAt (L2.CX X.prog X.w) X σ (E σ)) (he : PE X o ta) (ha : PA X (e :: es) t)
    (hst : starEach (e :: es) X.env = (false, eval e X.env) :: starEach es X.env := by rfl) (hpl : (backTo pos (starEach es X.env)).any (·.1) = false := by rfl)
    (ht : eval (.Call (.Attribute o m apos) (e :: es) [] pos) X.env = (do
      let ov ← eval o X.env
      standAt apos.atName
      let (f, first) ← holding [ov] (getMethod ov m pl)
      callWith pos f first (backTo pos (starEach (e :: es) X.env)) (backToKw pos (keywordEach [] X.env))) := by rfl) :
    PE X (.Call (.Attribute o m apos) (e :: es) [] pos) (tMethV X m E ta t) := by
  refine ⟨fun pins s σ H Q I h => ?_⟩
  refine PySem.W.methodCall_KW (pl := pl) (thn (he.run pins s σ H _ I h) fun u s1 ⟨x, H1, I1, rx, C, g, fd, ps, k, sp, a, dx, fs, ex, ea, l, c, hm, F, hr, hb, q⟩ => ?_) ht
  subst ex
  obtain rfl : u = Value.ref a := rx
  refine getmeth_ok I1 ea c hm l ?_
  refine PySem.W.callWith_K (first := [.ref a]) (h₀ := X.base) I.ok.mod.kin hm.kp (thn (ha.run pos pins s1 σ H1 _ I1 q) fun us s2 ⟨vs, H2, I2, r, q2⟩ => ⟨I2.kIn, ?_⟩) hst hpl
  exact run_fnS (us := .ref a :: us) (vs := .ref a :: vs) F hr hb (hx σ) I2 (.cons rfl r) q2
theorem pe_methV0 {pl : Sem Bool} (hx : ∀ σ, PassesAt (L2.CX X.prog X.w) X σ (E σ)) (he : PE X o ta)
    (ht : eval (.Call (.Attribute o m apos) [] [] pos) X.env = (do
      let ov ← eval o X.env
      standAt apos.atName
      let (f, first) ← holding [ov] (getMethod ov m pl)
      callWith pos f first (backTo pos (starEach [] X.env)) (backToKw pos (keywordEach [] X.env))) := by rfl) :
    PE X (.Call (.Attribute o m apos) [] [] pos) (tMethV X m E ta tNil) := by
  refine ⟨fun pins s σ H Q I h => ?_⟩
  refine PySem.W.methodCall_KW (pl := pl) (thn (he.run pins s σ H _ I h) fun u s1 ⟨x, H1, I1, rx, C, g, fd, ps, k, sp, a, dx, fs, ex, ea, l, c, hm, F, hr, hb, q⟩ => ?_) ht
  subst ex
  obtain rfl : u = Value.ref a := rx
  refine getmeth_ok I1 ea c hm l ?_
  exact PySem.W.callWith_K0 (first := [.ref a]) I1.kIn hm.kp (run_fnS (us := [.ref a]) (vs := [.ref a]) F hr hb (hx σ) I1 (.cons rfl .nil) q)
/-- C(..) -/
def tMakeS (C : Addr) (sp : Sp) (E : L2.St → XK) (t : TA) : TE := fun σ H Q => t σ H fun vs H1 => ∀ x dx, H1 x = none → H1 dx = none → dx ≠ x →
  sp (.ref x :: vs) (upd (upd H1 dx (.own x)) x (.ins C dx [])) (fun v H2 => v = .non ∧ Q (.ref x) H2) (E σ)
theorem run_makeS {pins : List (Addr × Obj)} {σ : L2.St} {H : Hp} {s : Shared} {Q : VK} {us : List Value} {vs : List V} (M : Mk X.K C fn) (F : FnOk X.prog X.w X.K X.mg X.base (L2.CX X.prog X.w) k fn fd ps sp) (hr : Room (k + 1) X.A) (hb : Binds X.K fd ps [])
    (hx : PassesAt (L2.CX X.prog X.w) X σ (E σ)) (I : Inv X pins σ H s) (r : Vals vs us)
    (h : ∀ x dx, H x = none → H dx = none → dx ≠ x → sp (.ref x :: vs) (upd (upd H dx (.own x)) x (.ins C dx [])) (fun v H2 => v = .non ∧ Q (.ref x) H2) (E σ)) :
    wpAny (model X.prog X.w) X.A (call (.ref C) us) (EP X pins σ Q) X.xe s := by
  have hq := h (s.heap.objs.size + 1) s.heap.objs.size (I.hok.fresh (Nat.le_succ _)) (I.hok.fresh (Nat.le_refl _)) (Nat.ne_of_lt (Nat.lt_succ_self _))
  have I2 := Inv.made (C := C) I
  have r2 : Vals (V.ref (s.heap.objs.size + 1) :: vs) (Value.ref (s.heap.objs.size + 1) :: us) := .cons rfl r
  have hl : (Value.ref (s.heap.objs.size + 1) :: us).length = ps.length := by
    have e := r2.length
    rw [F.len _ _ _ _ hq] at e
    exact e.symm
  have b := hb _ (Value.ref (s.heap.objs.size + 1) :: us) I2.kIn (by rw [List.append_nil]; exact hl)
  rw [List.append_nil] at b
  refine wpAny_call (make_map (f := fn) I.kIn M.makes M.init (beq_iff_eq.mp M.fn) (codeAny_mono (F.run _ X.stack _ _ ⟨Value.ref (s.heap.objs.size + 1) :: us, []⟩ (Value.ref (s.heap.objs.size + 1) :: us) _ _ (E σ) (hr.make C us [])
    (I2.env0.make C us []) b r2 hq) fun r s' hq' => ?_))
  cases r with
  | error e => exact hx pins _ _ e s' I2 hq'
  | ok fl =>
    cases fl with
    | ret u =>
      obtain ⟨v, H', I3, rv, ev, q3⟩ := I2.after hq'
      subst ev
      exact ⟨rv, ⟨V.ref (s.heap.objs.size + 1), H', I3, rfl, q3⟩⟩
    | next => exact False.elim hq'
    | brk => exact False.elim hq'
    | cont => exact False.elim hq'
theorem pe_makeS (M : Mk X.K C fn) (F : FnOk X.prog X.w X.K X.mg X.base (L2.CX X.prog X.w) k fn fd ps sp) (hr : Room (k + 1) X.A) (hg : Gl X x) (hm : X.mg x = some (.ref C)) (hb : Binds X.K fd ps []) (hx : ∀ σ, PassesAt (L2.CX X.prog X.w) X σ (E σ))
    (ha : PA X (e :: es) t) (hdb : (x == ("__debug__" : Str)) = false := by decide) (he : starEach (e :: es) X.env = (false, eval e X.env) :: starEach es X.env := by rfl) (hpl : (backTo pos (starEach es X.env)).any (·.1) = false := by rfl) :
    PE X (.Call (.Name x p) (e :: es) [] pos) (tMakeS C sp E t) := by
  refine ⟨fun pins s σ H Q I h => ?_⟩
  refine wpAny_Call_Name_kw (ld_glob I hg hm ?_ hdb)
  refine PySem.W.callWith_K (h₀ := X.base) I.ok.mod.kin M.kp (thn (ha.run pos pins s σ H _ I h) fun us s1 ⟨vs, H1, I1, r, q⟩ => ⟨I1.kIn, ?_⟩) he hpl
  exact run_makeS M F hr hb (hx σ) I1 r q
/-- C.m(..), C a class, m a plain def of it -/
def tClsS (C : Addr) (sp : Sp) (E : L2.St → XK) (ta : TE) (t : TA) : TE := fun σ H Q => ta σ H fun x H1 => x = .ref C ∧ t σ H1 fun vs H2 => sp vs H2 Q (E σ)
end
/-! ### methods -/
/-- a method of the class with number c that keeps its function -/
structure VMt (P : Program) (w : World) (κ : Kx) (mg : Str → Option Value) (base : Heap) (c : Nat) (m : Str) (k : Nat) (ms : List Bool) (g : FSem) : Prop where
  ex : ∃ (f : Addr) (fd : FuncData) (ps : List Str), L2.Cls κ.K (κ.cl c) ∧ L2.Meth κ.K (κ.cl c) m f ∧ m ∉ κ.fl c ∧ FnOk P w κ.K mg base (L2.CX P w) k f fd ps (spV κ (false :: ms) g) ∧ Binds κ.K fd ps []
def VMs (P : Program) (w : World) (κ : Kx) (mg : Str → Option Value) (base : Heap) (m : Str) (k : Nat) (ms : List Bool) (gs : Nat → Option FSem) : Prop := ∀ c g, gs c = some g → ∃ j, j ≤ k ∧ VMt P w κ mg base c m j ms g
structure VMtI (P : Program) (w : World) (κ : Kx) (mg : Str → Option Value) (base : Heap) (c : Nat) (m : Str) (k : Nat) (ms : List Bool) (g : FSemI) : Prop where
  ex : ∃ (f : Addr) (fd : FuncData) (ps : List Str), L2.Cls κ.K (κ.cl c) ∧ L2.Meth κ.K (κ.cl c) m f ∧ m ∉ κ.fl c ∧ FnOk P w κ.K mg base (L2.CX P w) k f fd ps (spI κ 0 ms g) ∧ Binds κ.K fd ps []
/-- a class that is made -/
structure VMk (P : Program) (w : World) (κ : Kx) (mg : Str → Option Value) (base : Heap) (x : Str) (c : Nat) (k : Nat) (ms : List Bool) (g : FSemI) : Prop where
  ex : ∃ (f : Addr) (fd : FuncData) (ps : List Str), mg x = some (.ref (κ.cl c)) ∧ Mk κ.K (κ.cl c) f ∧ FnOk P w κ.K mg base (L2.CX P w) k f fd ps (spI κ 0 ms g) ∧ Binds κ.K fd ps []
/-- C.__init__(self, ..) -/
structure VCi (P : Program) (w : World) (κ : Kx) (mg : Str → Option Value) (base : Heap) (x : Str) (c : Nat) (m : Str) (k : Nat) (ms : List Bool) (g : FSemI) : Prop where
  ex : ∃ (f : Addr) (fd : FuncData) (ps : List Str) (mc : Value), mg x = some (.ref (κ.cl c)) ∧ ClX.CRead κ.K (κ.cl c) mc ∧ PySem.W.findCls κ.K (.ref (κ.cl c)) mc m = some (.val (.ref f)) ∧ PySem.W.keepIn κ.K (.ref f) = true ∧ FnOk P w κ.K mg base (L2.CX P w) k f fd ps (spI κ 0 ms g) ∧ Binds κ.K fd ps []
def fMeth (gs : Nat → Option FSem) (mo : Sm D) (mr : Sm (List D)) : Sm Rs := bnd mo fun x => match x with
  | .ob c l => match gs c with
    | some g => fCall (fun ds => g (.ob c l :: ds)) mr
    | none => fun _ => none
  | _ => fun _ => none
def fMethI (i c : Nat) (g : FSemI) (m : Sm (List D)) : Sm Rs := fun e => match obAt e i with
  | some (c', _) => if c' = c then fCallI i g m e else none
  | none => none
def fMake (c : Nat) (g : FSemI) (m : Sm (List D)) : Sm Rs := bnd m fun ds e => match g (.ob c []) ds with
  | some (.rt (.sh .non) o) => some (.ok (.tr o) e)
  | some (.ex x _) => some (.ex x e)
  | _ => none
section
variable {X : Cx} {κ : Kx} {W : WX} {e o : Expr} {es : List Expr} {ms : List Bool} {g : FSem} {gI : FSemI} {gs : Nat → Option FSem} {mo : Sm D} {mr : Sm (List D)} {k : Nat} {x m : Str} {p pos apos np : Pos} {c : Nat}
theorem meth_tr {t : TA} (F : VMs X.prog X.w κ X.mg X.base m k ms gs) (hK : X.K = κ.K) (hr : Room k X.A) (ht : ∀ σ H P, tX κ W (RA κ ms) mr σ H P → t σ H P) {σ : L2.St} {H : Hp} {Q : VK} (h : tX κ W (RV κ) (fMeth gs mo mr) σ H Q) : tMethV X m (fun σ => WE W σ) (tX κ W (RP κ) mo) t σ H Q := by
  obtain ⟨G, env, r, q⟩ := h
  refine bind_post r q fun d e1 v H1 G1 _ r1 rv s1 f1 q1 => ?_
  cases d with
  | ob c l =>
    dsimp only at q1
    cases hg : gs c with
    | none => rw [hg] at q1; exact q1.elim
    | some g0 =>
      rw [hg] at q1
      obtain ⟨j, hj, M⟩ := F c g0 hg
      obtain ⟨f, fd, ps, h1, h2, h3, h4, h5⟩ := M.ex
      rw [← hK] at h1 h2 h4 h5
      cases rv with
      | ob g1 g2 g3 =>
        rename_i a dx fs
        refine ⟨_, f, fd, ps, j, _, a, dx, fs, rfl, r1.sub _ _ g1, lookup_out g2 h3, h1, h2, h4, hr.mono hj, h5, ht _ _ _ ?_⟩
        exact bind_post r1 q1 fun ds e2 vs H2 G2 _ r2 rs s2 f2 q2 => call_post (ms := false :: ms) (ds := .ob c l :: ds) r2 (.sh ((Rp.ob g1 g2 g3).mono f2.gk) rs) q2
  | _ => exact q1.elim
theorem v_meth {pl : Sem Bool} (F : VMs X.prog X.w κ X.mg X.base m k ms gs) (hK : X.K = κ.K) (hr : Room k X.A) (tk : Takes X W) (ho : PE X o (tX κ W (RP κ) mo)) (ha : PA X (e :: es) (tX κ W (RA κ ms) mr))
    (hst : starEach (e :: es) X.env = (false, eval e X.env) :: starEach es X.env := by rfl) (hpl : (backTo pos (starEach es X.env)).any (·.1) = false := by rfl)
    (ht : eval (.Call (.Attribute o m apos) (e :: es) [] pos) X.env = (do
      let ov ← eval o X.env
      standAt apos.atName
      let (f, first) ← holding [ov] (getMethod ov m pl)
      callWith pos f first (backTo pos (starEach (e :: es) X.env)) (backToKw pos (keywordEach [] X.env))) := by rfl) :
    PE X (.Call (.Attribute o m apos) (e :: es) [] pos) (tX κ W (RV κ) (fMeth gs mo mr)) :=
  PE.imp (pe_methV (fun σ => passAt tk σ) ho ha hst hpl ht) fun σ H Q h => meth_tr F hK hr (fun _ _ _ h => h) h
theorem v_meth0 {pl : Sem Bool} (F : VMs X.prog X.w κ X.mg X.base m k [] gs) (hK : X.K = κ.K) (hr : Room k X.A) (tk : Takes X W) (ho : PE X o (tX κ W (RP κ) mo))
    (ht : eval (.Call (.Attribute o m apos) [] [] pos) X.env = (do
      let ov ← eval o X.env
      standAt apos.atName
      let (f, first) ← holding [ov] (getMethod ov m pl)
      callWith pos f first (backTo pos (starEach [] X.env)) (backToKw pos (keywordEach [] X.env))) := by rfl) :
    PE X (.Call (.Attribute o m apos) [] [] pos) (tX κ W (RV κ) (fMeth gs mo aNil)) :=
  PE.imp (pe_methV0 (fun σ => passAt tk σ) ho ht) fun σ H Q h => meth_tr F hK hr (fun σ H P ⟨G, env, r, q⟩ => q [] H G r .nil (Grw.refl _) Fr.refl) h
/-- C(..) -/
theorem make_tr {t : TA} (F : VMk X.prog X.w κ X.mg X.base x c k ms gI) (ht : ∀ σ H P, tX κ W (RA κ ms) mr σ H P → t σ H P) {σ : L2.St} {H : Hp} {Q : VK} (h : tX κ W (RV κ) (fMake c gI mr) σ H Q) : tMakeS (κ.cl c) (spI κ 0 ms gI) (fun σ => WE W σ) t σ H Q := by
  obtain ⟨G, env, r, q⟩ := h
  refine ht _ _ _ (bind_post r q fun ds e1 vs H1 G1 _ r1 rv s1 f1 q1 => ?_)
  intro a dx ha hdx ne
  have hb : Same H1 (upd (upd H1 dx (.own a)) a (.ins (κ.cl c) dx [])) := fun b u e => by
    rw [upd_ne (ne_of_none e ha), upd_ne (ne_of_none e hdx)]
    exact e
  have nn : ∀ b, b = a ∨ upd (upd H1 dx (.own a)) a (.ins (κ.cl c) dx []) b = none → H1 b = none := fun b h => by
    rcases h with rfl | h
    · exact ha
    · cases w : H1 b with
      | none => rfl
      | some u => rw [hb b u w] at h; cases h
  have ga : G1.g a = none := r1.sub.none ha
  refine ⟨G1.g, .ref a, vs, ds, .ob c [], [a], rfl, Nat.zero_le _, r1.sub.kept hb, .ob upd_same ga rfl .nil (fun m => by cases m), (rv.x fun b m => by rw [List.mem_singleton.mp m]; exact ha).mono (gr hb) (Same.refl _), ?_⟩
  have fin : ∀ {H' G' : Hp}, Chg κ (upd (upd H1 dx (.own a)) a (.ins (κ.cl c) dx [])) G1 [a] H' G' → Rep κ H' ⟨G', G1.fp⟩ σ e1 ∧ Grw H1 H' ∧ Fr H1 G1 σ e1 H' ⟨G', G1.fp⟩ σ e1 := fun {H' G'} ch => by
    have sm : Grw H1 H' := fun b u e => ch.hk b u (hb b u e) fun m => by rw [List.mem_singleton.mp m, ha] at e; cases e
    have gn : ∀ b u, H1 b = some u → G1.g b = none → G' b = none := fun b u e g => ch.gn b u (hb b u e) g fun m => by rw [List.mem_singleton.mp m, ha] at e; cases e
    exact ⟨r1.grow (G' := ⟨G', G1.fp⟩) sm ch.gk ch.sub (fun _ => rfl) fun i b o => by
      obtain ⟨⟨u, h⟩, g0⟩ := r1.own o
      exact gn b u h g0, sm, Fr.same sm ch.gk (fun b u h g0 _ => gn b u h g0) (fun _ _ _ h => h) fun _ _ _ h => ⟨h, rfl⟩⟩
  cases z : gI (.ob c []) ds with
  | none => rw [z] at q1; exact q1.elim
  | some w => cases w with
    | rt y o' =>
      cases y with
      | sh d =>
        cases d with
        | non =>
          rw [z] at q1
          intro v H' G' F' ch ro hF rf
          obtain ⟨rp, sm, fr⟩ := fin ch
          refine ⟨by cases rf; rfl, q1 (.ref a) H' ⟨G', G1.fp⟩ rp ⟨F', ro, fun b m => ?_⟩ sm fr⟩
          have hb0 := nn b (by rcases hF b m with h | h
                               · exact .inl (List.mem_singleton.mp h)
                               · exact .inr h)
          exact ⟨r1.fre hb0, fun u e => by rw [hb0] at e; cases e⟩
        | _ => rw [z] at q1; exact q1.elim
      | _ => rw [z] at q1; exact q1.elim
    | ex y o' =>
      rw [z] at q1
      intro cc d H' G' F' ch ro hF xr
      obtain ⟨rp, sm, fr⟩ := fin ch
      exact q1 cc d H' ⟨G', G1.fp⟩ rp xr sm fr
theorem v_make (F : VMk X.prog X.w κ X.mg X.base x c k ms gI) (hK : X.K = κ.K) (hr : Room (k + 1) X.A) (tk : Takes X W) (hg : Gl X x) (ha : PA X (e :: es) (tX κ W (RA κ ms) mr)) (hdb : (x == ("__debug__" : Str)) = false := by decide)
    (he : starEach (e :: es) X.env = (false, eval e X.env) :: starEach es X.env := by rfl) (hpl : (backTo pos (starEach es X.env)).any (·.1) = false := by rfl) : PE X (.Call (.Name x p) (e :: es) [] pos) (tX κ W (RV κ) (fMake c gI mr)) := by
  obtain ⟨f, fd, ps, hm, M, F1, hb⟩ := F.ex
  rw [← hK] at M F1 hb
  exact PE.imp (pe_makeS M F1 hr hg hm hb (fun σ => passAt tk σ) ha hdb he hpl) fun σ H Q h => make_tr F (fun _ _ _ h => h) h
/-! ### arguments with a thing to be changed -/
def RAI (κ : Kx) (i q0 : Nat) (ms : List Bool) : Rl (List D) (List V) := fun σ _ H G _ vs ds => ∃ v us, vs = insA q0 v us ∧ σ[i]? = some (some v) ∧ RBs κ H G ms us ds ∧ q0 ≤ ms.length
instance {i q0 : Nat} : RlMono (RAI κ i q0 ms) := ⟨fun _ q => q⟩
def aHere (i : Nat) (m : Sm (List D)) : Sm (List D) := fun e => match e[i]? with
  | some s => match getO s with
    | some _ => m e
    | none => none
  | none => none
/-! ### values that change, put together -/
/-! ### methods of own lists -/
/-- xs.pop() -/
def fPop0 (i : Nat) : Sm D := fun e => match e[i]? with
  | some s => match getL s with
    | some l => match l[l.length - 1]? with
      | some d => some (.ok d (e.set i (setL s l.dropLast)))
      | none => none
    | none => none
  | none => none
/-- xs.pop(i) -/
def fPop1 (i : Nat) (m : Sm D) : Sm D := fun e0 => match e0[i]? with
  | some s0 => match getL s0 with
    | some _ => bnd m (fun j e => match j with
      | .int z => match e[i]? with
        | some s => match getL s with
          | some l => if -1000000 ≤ z ∧ z ≤ 1000000 then match seqIndex? z l.length with
            | some k => match l[k]? with
              | some d => some (.ok d (e.set i (setL s (l.eraseIdx k))))
              | none => none
            | none => none
            else none
          | none => none
        | none => none
      | _ => none) e0
    | none => none
  | none => none
theorem RpA.erase {G : Hp} : ∀ {xs : List V} {l : List D} (k : Nat), RpA κ G xs l → RpA κ G (xs.eraseIdx k) (l.eraseIdx k)
  | _, _, _, .nil => .nil
  | _, _, 0, .cons _ t => t
  | _, _, k + 1, .cons r t => .cons r (RpA.erase k t)
/-- xs.insert(i, e) -/
def sIns (i : Nat) (mj m : Sm D) : Ss := sOwn i (sbnd mj fun j => sbnd m fun d => match j with
  | .int z => chL i fun l => if 0 ≤ z ∧ z ≤ 1000000 ∧ l.length < szl then some (l.take z.toNat ++ [d] ++ l.drop z.toNat) else none
  | _ => fun _ => none)
end
end Vs


set_option Elab.async false
set_option linter.all false
set_option maxRecDepth 100000
set_option maxHeartbeats 2000000
/-! Vs7: more of the built-ins and of the classes. -/
namespace Vs
open PySem L2 PyProof.Rows
/-! ### isinstance of an own class -/
structure IsoOk (κ : Kx) (cv : Value) (tab : Nat → Option Bool) : Prop where
  ok : ∀ c b, tab c = some b → L2.Cls κ.K (κ.cl c) ∧ PySem.W.findIn κ.K (.ref (κ.cl c)) "__class__" = some (some (.builtin "object.__class__")) ∧ PySem.W.specialIn κ.K (.builtin "object.__class__") "__get__" = some (some (.builtin "getset_descriptor.__get__")) ∧ PySem.W.takesIn κ.K (.builtin "object.__class__") = some true ∧ PySem.W.mroIn κ.K (κ.cl c) (.type "object") = some true ∧ PySem.W.kitOne κ.K (.ref (κ.cl c)) cv = some b
def fIsO (tab : Nat → Option Bool) (m : Sm D) : Sm D := bnd m fun d e => match d with
  | .ob c _ => match tab c with
    | some b => some (.ok (.bl b) e)
    | none => none
  | _ => none
section
variable {X : Cx} {κ : Kx} {W : WX} {o e e2 : Expr} {mo : Sm D} {pos p p2 : Pos}
end
/-! ### a method with a default -/
section
variable {X : Cx} {k : Nat} {m : Str} {pos apos : Pos} {e o : Expr} {es : List Expr} {ta : TE} {t : TA} {E : L2.St → XK}
def tMethVD (X : Cx) (m : Str) (dvs : List V) (E : L2.St → XK) (ta : TE) (t : TA) : TE := fun σ H Q => ta σ H fun x H1 => ∃ (C g : Addr) (fd : FuncData) (ps : List Str) (k : Nat) (sp : Sp) (a dx : Addr) (fs : List (Str × V)) (ds : List Value), x = .ref a ∧ H1 a = some (.ins C dx fs) ∧ fs.lookup m = none ∧
  L2.Cls X.K C ∧ L2.Meth X.K C m g ∧ FnOk X.prog X.w X.K X.mg X.base (L2.CX X.prog X.w) k g fd ps sp ∧ Room k X.A ∧ Binds X.K fd ps ds ∧ Vals dvs ds ∧ t σ H1 fun vs H2 => sp ((x :: vs) ++ dvs) H2 Q (E σ)
end
def VMsD (P : Program) (w : World) (κ : Kx) (mg : Str → Option Value) (base : Heap) (m : Str) (k : Nat) (ms : List Bool) (gs : Nat → Option FSem) (dv : Int) : Prop := ∀ c g, gs c = some g → ∃ j, j ≤ k ∧ ∃ (f : Addr) (fd : FuncData) (ps : List Str), L2.Cls κ.K (κ.cl c) ∧ L2.Meth κ.K (κ.cl c) m f ∧ m ∉ κ.fl c ∧ FnOk P w κ.K mg base (L2.CX P w) j f fd ps (spV κ (false :: ms) g) ∧ Binds κ.K fd ps [] ∧ ∃ ds, Vals [V.int dv] ds ∧ Binds κ.K fd ps ds
def fMethD (gs : Nat → Option FSem) (dv : Int) (mo : Sm D) (mr : Sm (List D)) : Sm Rs := fMeth (fun c => match gs c with
  | some g => some fun ds => g (ds ++ [.int dv])
  | none => none) mo mr
section
variable {X : Cx} {κ : Kx} {W : WX} {e o e2 : Expr} {es : List Expr} {ms : List Bool} {mo : Sm D} {mr : Sm (List D)} {k : Nat} {x m : Str} {p p2 pos apos np : Pos} {gs : Nat → Option FSem} {dv : Int} {mm : Bool}
/-! ### own lists in an own object -/
/-- self.f.append(e) -/
def chF (i : Nat) (tab : Nat → Option Nat) (f : List D → Option (List D)) (e : En) : Option En := match obAt e i with
  | some (c, fs) => match tab c with
    | some k => match fs[k]? with
      | some (.ow l) => match f l with
        | some l' => match e[i]? with
          | some s => some (e.set i (setO s (.ob c (fs.set k (.ow l')))))
          | none => none
        | none => none
      | _ => none
    | none => none
  | none => none
theorem RFs.chg {H G : Hp} {b : Addr} {xs' : List V} {l' : List D} (hb : H b = some (.lst xs')) (r : RpA κ G xs' l') : ∀ {vs : List V} {fs : List Fd} {F : List Addr} (H0 : Hp) (k : Nat) (l : List D), RFs κ H0 G vs fs F → fs[k]? = some (.ow l) → vs[k]? = some (.ref b) → (∀ a u, a ≠ b → H0 a = some u → H a = some u) → RFs κ H G vs (fs.set k (.ow l')) F
  | _, _, _, H0, k, l, .nil, h, _, _ => by simp at h
  | _, _, _, H0, 0, l, .sh _ _, h, _, _ => by simp at h
  | _, _, _, H0, 0, l, .ow h1 h2 h3 h4 t, h, hv, hk => by
    simp only [List.getElem?_cons_zero, Option.some.injEq, V.ref.injEq] at hv
    subst hv
    exact .ow hb h2 r h4 (t.grow (Same.refl _) (fun a u m h => hk a u (fun z => h4 (z ▸ m)) h) fun a m => (t.own m).2)
  | _, _, _, H0, k + 1, l, .sh q t, h, hv, hk => .sh q (RFs.chg hb r H0 k l t (by simpa using h) (by simpa using hv) hk)
  | _, _, _, H0, k + 1, l, .ow h1 h2 h3 h4 t, h, hv, hk => by
    rename_i a0 xs0 l0 vs0 fs0 F0
    have h' : fs0[k]? = some (.ow l) := by simpa using h
    have hv' : vs0[k]? = some (.ref b) := by simpa using hv
    have ne : a0 ≠ b := fun z => by
      obtain ⟨v, e1, e2⟩ := t.at (k := k) (x := .ow l) h'
      rw [hv'] at e1
      cases e1
      rcases e2 with ⟨d, e, _⟩ | ⟨a, xs, l2, e, e3, _, _, _, m⟩
      · cases e
      · cases e3
        exact h4 (z ▸ m)
    exact .ow (hk _ _ ne h1) h2 h3 h4 (RFs.chg hb r H0 k l t h' hv' hk)
def sAppF (i : Nat) (tab : Nat → Option Nat) (m : Sm D) : Ss := fun e0 => match chF i tab some e0 with
  | some _ => sbnd m (fun d e => match chF i tab (fun l => if l.length < szl then some (l ++ [d]) else none) e with
    | some e1 => some (.nx e1)
    | none => none) e0
  | none => none
def fPopF (i : Nat) (tab : Nat → Option Nat) : Sm D := fun e => match eFd i tab e with
  | some (.ow l) => match l[l.length - 1]? with
    | some d => match chF i tab (fun l => some l.dropLast) e with
      | some e1 => some (.ok d e1)
      | none => none
    | none => none
  | _ => none
theorem sbind_postX {α β : Type} {R : Rl α β} {σ : L2.St} {H : Hp} {G : Gh} {env : En} {m : Sm α} {f : α → Ss} {D : Ends} (r : Rep κ H G σ env) (h : SPost κ W σ H G env (sbnd m f env) D)
    {P' : β → Hp → Prop} (k : ∀ a env1 v H1 G1, m env = some (.ok a env1) → Rep κ H1 G1 σ env1 → R σ (Nw H G env) H1 G1 env1 v a → Grw H H1 → Fr H G σ env H1 G1 σ env1 → SPost κ W σ H1 G1 env1 (f a env1) D → P' v H1) :
    tX κ W R m σ H P' := by
  refine ⟨G, env, r, ?_⟩
  unfold sbnd at h
  cases e : m env with
  | none => rw [e] at h; exact h
  | some q => cases q with
    | ok a e1 =>
      rw [e] at h
      exact fun v H1 G1 r1 r2 s2 f2 => k a e1 v H1 G1 e r1 r2 s2 f2 (SPost.shift f2 h)
    | ex x e1 =>
      rw [e] at h
      exact fun c d H' G' a b _ g => h c d σ H' G' a b g
/-! ### zip -/
def zipL (l k : List D) : List D := List.zipWith (fun a b => .tup [a, b]) l k
def fZip (m n : Sm (List D)) : Sm (List D) := bnd m fun l => bnd n fun k e => some (.ok (zipL l k) e)
/-! ### xs.index(e) -/
def ixL (x : D) : List D → Option Nat
  | [] => none
  | y :: l => if y.feq x = true then some 0 else match ixL x l with
    | some j => some (j + 1)
    | none => none
def ixP (x : PyData) : List PyData → Option Nat
  | [] => none
  | y :: l => if PyData.eqv y x = true then some 0 else match ixP x l with
    | some j => some (j + 1)
    | none => none
def fML (f : List D → D → Option Rs) (mo me : Sm D) : Sm Rs := bnd mo fun x => match x with
  | .lst l => bnd me fun y e => match f l y with
    | some z => some (.ok z e)
    | none => none
  | _ => fun _ => none
def opIdx (l : List D) (x : D) : Option Rs := if x.fl = true ∧ l.all D.fl = true then (match ixL x l with
      | some j => some (.sh (.int (j : Int)))
      | none => none)
    else if x.okE = true ∧ (D.lst l).okE = true then (match ixP x.toP (toPA l) with
      | some j => some (.sh (.int (j : Int)))
      | none => none) else none
def rIdxA (κ : Kx) : V → List V → Hp → VK → Prop := fun x xs H Q => rIndex κ.K x xs H Q ∨ rIndexD κ.K x xs H Q
/-! ### any, all, sorted, max, min -/
def allBls : List D → Option (List Bool)
  | [] => some []
  | .bl b :: r => match allBls r with
    | some l => some (b :: l)
    | none => none
  | _ :: _ => none
def opAny : List D → Option Rs
  | [.lst l] => match allBls l with
    | some bs => some (.sh (.bl (bs.any id)))
    | none => none
  | _ => none
def opAll : List D → Option Rs
  | [.lst l] => match allBls l with
    | some bs => some (.sh (.bl (bs.all id)))
    | none => none
  | _ => none
def insI (x : Int) : List Int → List Int
  | [] => [x]
  | y :: l => if x ≤ y then x :: y :: l else y :: insI x l
def srtI : List Int → List Int
  | [] => []
  | x :: l => insI x (srtI l)
def opSorted : List D → Option Rs
  | [.lst l] => match allInts l with
    | some ns => some (.ow ((srtI ns).map D.int))
    | none => none
  | _ => none
def maxL : List Int → Option Int
  | [] => none
  | x :: l => some (l.foldl (fun a b => if a < b then b else a) x)
def minL : List Int → Option Int
  | [] => none
  | x :: l => some (l.foldl (fun a b => if b < a then b else a) x)
def opMaxL : List D → Option Rs
  | [.lst l] => match allInts l with
    | some ns => match maxL ns with
      | some m => some (.sh (.int m))
      | none => none
    | none => none
  | _ => none
def opMinL : List D → Option Rs
  | [.lst l] => match allInts l with
    | some ns => match minL ns with
      | some m => some (.sh (.int m))
      | none => none
    | none => none
  | _ => none
/-! ### more methods of texts -/
def opRfind : List Nat → D → Option Rs
  | a, .str b => some (.sh (.int (Txt.rfind (S a) (S b))))
  | _, _ => none
def opCount : List Nat → D → Option Rs
  | a, .str b => some (.sh (.int (Txt.count (S a) (S b))))
  | _, _ => none
variable {me : Sm D}
end
/-! a comprehension inside a comprehension -/
/-! ### <= over data -/
def rLeD (K : PySem.W.Frag) : R2 := fun x y H Q => ∃ d e, Dp K H x d ∧ Dp K H y e ∧ PySem.W.alike d e = true ∧ d ≠ .none ∧ d.depth ≤ 64 ∧ Q (.bl (!PySem.W.dataLt e d)) H
theorem op_leD {X : Cx} (hu : X.A.units + 64 < cLine) : OpR X (compareOp .LtE) (rLeD X.K) := by
  intro pins s σ H x y v u Q I rx ry h
  obtain ⟨d, e, hd, he, ha, hn, hz, q⟩ := h
  obtain ⟨as, r1⟩ := Dp.reads I d x v hd rx
  obtain ⟨bs, r2⟩ := Dp.reads I e y u he ry
  exact PySem.W.le_data r1 r2 ha hn (by omega) ⟨.bl _, H, I, rfl, q⟩
def dLe (x y : D) : Option Bool := if x.pl = true ∧ y.pl = true ∧ PySem.W.alike x.toP y.toP = true ∧ x.toP.depth ≤ 64 then some (!PySem.W.dataLt y.toP x.toP) else none
def cLeA : D → D → Option Bool
  | .int i, .int j => some (decide (i ≤ j))
  | .str a, .str b => some (!decide (b < a))
  | .lst a, .lst b => dLe (.lst a) (.lst b)
  | .tup a, .tup b => dLe (.tup a) (.tup b)
  | _, _ => none
def rLeA (κ : Kx) : R2 := fun x y H Q => rCm (fun i j => decide (i ≤ j)) (fun a b => !decide (b < a)) x y H Q ∨ rLeD κ.K x y H Q
theorem o_leA {X : Cx} {κ : Kx} (hK : X.K = κ.K) (hu : X.A.units + 64 < cLine) : OpR X (compareOp .LtE) (rLeA κ) := by
  unfold rLeA
  rw [← hK]
  exact OpR.or o_le (op_leD hu)
theorem dLe_of {κ : Kx} {x y : V} {dx dy : D} {z : Bool} {H G : Hp} {Q : VK} (hn : dx.toP ≠ .none) (e : dLe dx dy = some z) (s : Same G H) (rx : RBq κ H G x dx) (ry : RBq κ H G y dy) (q : Q (.bl z) H) : rLeD κ.K x y H Q := by
  unfold dLe at e
  split at e
  · rename_i h
    cases e
    exact ⟨_, _, rx.dp s h.1, ry.dp s h.2.1, h.2.2.1, hn, h.2.2.2, q⟩
  · cases e
theorem s_leA {κ : Kx} : OpB κ (rLeA κ) cLeA := fun x y dx dy z H G Q e s rx ry q => by
  cases dx <;> cases dy <;> try (cases e; done)
  · rename_i i j
    exact .inl (s_cm x y (.int i) (.int j) z H G Q e s rx ry q)
  · rename_i i j
    exact .inl (s_cm x y (.str i) (.str j) z H G Q e s rx ry q)
  · exact .inr (dLe_of (by simp only [D.toP]; exact fun z => nomatch z) e s rx ry q)
  · exact .inr (dLe_of (by simp only [D.toP]; exact fun z => nomatch z) e s rx ry q)
end Vs


set_option Elab.async false
set_option linter.all false
set_option maxRecDepth 100000
set_option maxHeartbeats 2000000
/-! Vs8: sep.join(reversed(text)). -/
namespace RS
open PySem PySem.Spec PyProof.Rows L2
def rsObj (x : Str) (t : Tok) (i : Int) : Obj := { cls := .type "reversed", data := .fields #[.str x t, rawInt i] }
def IsRs (h : Heap) (a : Addr) (x : Str) (t : Tok) (i : Int) : Prop := ∃ o, h.get? a = some o ∧ o.cls = .type "reversed" ∧ o.data = .fields #[.str x t, rawInt i]
theorem IsRs.at {h h' : Heap} {a : Addr} {x : Str} {t : Tok} {i : Int} (q : IsRs h a x t i) (e : ∀ o, h.get? a = some o → h'.get? a = some o) : IsRs h' a x t i := let ⟨o, ho, r⟩ := q; ⟨o, e _ ho, r⟩
section
variable {prog : Program} {w : World} {A : Around} {E : Value → Shared → Prop} {s : Shared} {x : Str} {t : Tok}
end
section
variable {X : Cx}
def tJoinRev (to te : TE) : TE := fun σ H Q => to σ H fun v H1 => (∃ a, v = .str a) ∧ te σ H1 fun u H2 => ∃ a b : Str, v = .str a ∧ u = .str b ∧ b.length ≤ sizeLine ∧
  ((b.cps.toList.reverse.map fun c => (⟨#[c]⟩ : Str)).map (·.length)).sum + (b.cps.toList.reverse.map fun c => (⟨#[c]⟩ : Str)).length * a.length ≤ 16777216 ∧ Q (.str (Txt.join a (b.cps.toList.reverse.map fun c => (⟨#[c]⟩ : Str)))) H2
end
/-! ### list(reversed(list)) -/
section
variable {prog : Program} {w : World} {A : Around} {E : Value → Shared → Prop} {s : Shared}
end
section
variable {X : Cx}
def tListRev (K : PySem.W.Frag) (te : TE) : TE := fun σ H Q => te σ H fun v H1 => ∃ (a : Addr) (xs : List V), v = .ref a ∧ SqL K H1 a xs ∧ ∀ q, H1 q = none → Q (.ref q) (upd H1 q (.lst xs.reverse))
end
end RS
namespace Vs
open PySem L2
/-! ### reversed -/
/-- ''.join(reversed(text)) -/
def opJoinRev : List Nat → D → Option Rs
  | [], .str w => if w.length ≤ szl then some (.sh (.str w.reverse)) else none
  | _, _ => none
/-- list(reversed(list)) -/
def fLRev (m : Sm D) : Sm Rs := bnd m fun d e => match d with
  | .lst l => some (.ok (.ow l.reverse) e)
  | _ => none
section
variable {X : Cx} {κ : Kx} {W : WX} {o e : Expr} {mo me : Sm D} {apos pos p p2 pos2 : Pos}
end
end Vs


set_option Elab.async false
set_option linter.all false
set_option maxRecDepth 100000
set_option maxHeartbeats 2000000
/-! Vs9: a list that a call gave and no name holds, changed in a statement; isinstance of three classes. -/
namespace Vs
open PySem PySem.Spec PyProof.Rows L2
section
variable {κ : Kx} {W : WX} {σ : L2.St} {H H' : Hp} {G G' : Gh} {env env' : En} {a : Addr}
end
/-- e().clear(), the list that the call gave -/
def sTmpC (m : Sm Rs) : Ss := sbnd m fun r e => match r with
  | .ow _ => some (.nx e)
  | _ => none
/-- e().append(v) -/
def sTmpA (m : Sm Rs) (m2 : Sm D) : Ss := sbnd m fun r => match r with
  | .ow l => if l.length < szl then sbnd m2 fun _ e => some (.nx e) else fun _ => none
  | _ => fun _ => none
section
variable {X : Cx} {κ : Kx} {W : WX} {e o : Expr} {mo : Sm Rs} {m : Sm D} {apos cpos pos p2 : Pos}
end
section
variable {X : Cx} {κ : Kx} {W : WX} {x : Str} {np : Pos} {i : Nat}
end
end Vs


set_option Elab.async false
set_option linter.all false
set_option maxRecDepth 100000
set_option maxHeartbeats 2000000
/-! Va: several except clauses with names; is False. -/
namespace L2
open PySem PySem.Spec PyProof.Rows
/-- what the named clauses wish of an exception of the body, one after the other -/
def wManyAs (K : PySem.W.Frag) (Wout : WX) (D : Ends) : List (Value × Option Nat × (Addr → Value → Option Addr → TS)) → WX
  | [] => Wout
  | (c, none, ts) :: r => fun cls d σ H => ∃ b, PySem.W.exmOne K cls c = some b ∧ (b = true → ∀ a, H a = none → ts a cls d D σ H) ∧ (b = false → wManyAs K Wout D r cls d σ H)
  | (c, some i, ts) :: r => fun cls d σ H => ∃ b, PySem.W.exmOne K cls c = some b ∧ (b = true → ∀ a, H a = none → ts a cls d { nx := fun σ' H' => D.nx (σ'.set i none) H', rt := D.rt, bk := fun σ' H' => D.bk (σ'.set i none) H', ct := fun σ' H' => D.ct (σ'.set i none) H' } (σ.set i (some (.ref a))) H) ∧ (b = false → wManyAs K Wout D r cls d σ H)
inductive HdsAs (X : Cx) : List ExceptHandler → List (Value × Option Nat × (Addr → Value → Option Addr → TS)) → Prop
  | nil : HdsAs X [] []
  | cons {x n : Str} {c : Value} {i : Nat} {ts : Addr → Value → Option Addr → TS} {b₀ : Stmt} {suite : List Stmt} {np pos' : Pos} {hds : List ExceptHandler} {l : List (Value × Option Nat × (Addr → Value → Option Addr → TS))} (hc : Names X x c) (hi : X.N[i]? = some n) (hln : X.env.kindOf n = some .local)
      (hsu : ∀ (a : Addr) (oe : Obj) (cls : Value) (d : Option Addr) (pn : List (Addr × Obj)), Zc cls d oe → (∃ vs, oe.data = .fields vs) → PSs (X.suite a ((a, oe) :: pn)) (b₀ :: suite) (ts a cls d)) (r : HdsAs X hds l) :
      HdsAs X (.ExceptHandler (some (.Name x np)) (some n) (b₀ :: suite) pos' :: hds) ((c, some i, ts) :: l)
  | cons0 {x : Str} {c : Value} {ts : Addr → Value → Option Addr → TS} {b₀ : Stmt} {suite : List Stmt} {np pos' : Pos} {hds : List ExceptHandler} {l : List (Value × Option Nat × (Addr → Value → Option Addr → TS))} (hc : Names X x c)
      (hsu : ∀ (a : Addr) (oe : Obj) (cls : Value) (d : Option Addr) (pn : List (Addr × Obj)), Zc cls d oe → (∃ vs, oe.data = .fields vs) → PSs (X.suite a ((a, oe) :: pn)) (b₀ :: suite) (ts a cls d)) (r : HdsAs X hds l) :
      HdsAs X (.ExceptHandler (some (.Name x np)) none (b₀ :: suite) pos' :: hds) ((c, none, ts) :: l)
section
variable {X : Cx} {body : List Stmt} {h₀ : ExceptHandler} {hds : List ExceptHandler} {l : List (Value × Option Nat × (Addr → Value → Option Addr → TS))} {pos : Pos} {tb : WX → TS} {Wout : WX}
end
end L2
namespace Vs
open PySem PySem.Spec PyProof.Rows L2
/-- is False, is True -/
def cIsB : D → D → Option Bool
  | .bl a, .bl b => some (decide (a = b))
  | _, _ => none
def cNotB : D → D → Option Bool
  | .bl a, .bl b => some (!decide (a = b))
  | _, _ => none
noncomputable def hdl (xs : Nat → Nat → Option Bool) (x : Ex) (e1 : En) : List (Nat × Option Nat × (Xo → Ss)) → Option SO
  | [] => some (.ex x e1)
  | (h, none, ms) :: r => match xs x.c h with
    | some true => allEq fun o => noX (ms o e1)
    | some false => hdl xs x e1 r
    | none => none
  | (h, some i, ms) :: r => match xs x.c h with
    | some true => if i < e1.length then allEq fun o => aftr i (ms o (e1.set i (.sh (.xn o x)))) else none
    | some false => hdl xs x e1 r
    | none => none
/-- except X as n, except Y as m -/
noncomputable def sTryM (xs : Nat → Nat → Option Bool) (l : List (Nat × Option Nat × (Xo → Ss))) (body : Ss) : Ss := fun e => match body e with
  | some (.ex x e1) => hdl xs x e1 l
  | o => o
inductive HdsM (X : Cx) (κ : Kx) (xs : Nat → Nat → Option Bool) : List ExceptHandler → List (Nat × Option Nat × (Xo → Ss)) → Prop
  | nil : HdsM X κ xs [] []
  | cons {x n : Str} {h i : Nat} {ms : Xo → Ss} {b₀ : Stmt} {suite : List Stmt} {np pos' : Pos} {hds : List ExceptHandler} {l : List (Nat × Option Nat × (Xo → Ss))} (hi : X.N[i]? = some n) (hln : X.env.kindOf n = some .local) (hc : Names X x (.ref (κ.xc h))) (hx : XsOk κ xs h)
      (hsu : ∀ (a : Addr) (oe : Obj) (cls : Value) (d : Option Addr) (pn : List (Addr × Obj)), Zc cls d oe → (∃ vs, oe.data = .fields vs) → PSs (X.suite a ((a, oe) :: pn)) (b₀ :: suite) (tS κ WF (ms ⟨a, cls, d⟩))) (r : HdsM X κ xs hds l) :
      HdsM X κ xs (.ExceptHandler (some (.Name x np)) (some n) (b₀ :: suite) pos' :: hds) ((h, some i, ms) :: l)
  | cons0 {x : Str} {h : Nat} {ms : Xo → Ss} {b₀ : Stmt} {suite : List Stmt} {np pos' : Pos} {hds : List ExceptHandler} {l : List (Nat × Option Nat × (Xo → Ss))} (hc : Names X x (.ref (κ.xc h))) (hx : XsOk κ xs h)
      (hsu : ∀ (a : Addr) (oe : Obj) (cls : Value) (d : Option Addr) (pn : List (Addr × Obj)), Zc cls d oe → (∃ vs, oe.data = .fields vs) → PSs (X.suite a ((a, oe) :: pn)) (b₀ :: suite) (tS κ WF (ms ⟨a, cls, d⟩))) (r : HdsM X κ xs hds l) :
      HdsM X κ xs (.ExceptHandler (some (.Name x np)) none (b₀ :: suite) pos' :: hds) ((h, none, ms) :: l)
section
variable {X : Cx} {κ : Kx} {W : WX} {xs : Nat → Nat → Option Bool} {body : List Stmt} {h₀ : ExceptHandler} {hds : List ExceptHandler} {l : List (Nat × Option Nat × (Xo → Ss))} {pos : Pos} {mb : Ss}
def toT (κ : Kx) (l : List (Nat × Option Nat × (Xo → Ss))) : List (Value × Option Nat × (Addr → Value → Option Addr → TS)) := l.map fun p => (.ref (κ.xc p.1), p.2.1, fun a cls d => tS κ WF (p.2.2 ⟨a, cls, d⟩))
theorem HdsM.as {hds : List ExceptHandler} {l : List (Nat × Option Nat × (Xo → Ss))} (h : HdsM X κ xs hds l) : HdsAs X hds (toT κ l) := by
  induction h with
  | nil => exact .nil
  | cons hi hln hc hx hsu r ih => exact .cons hc hi hln hsu ih
  | cons0 hc hx hsu r ih => exact .cons0 hc hsu ih
end
end Vs


set_option Elab.async false
set_option linter.all false
set_option maxRecDepth 100000
set_option maxHeartbeats 2000000
/-! Vb: a caught error handed to a def that asks of what class it is. -/
namespace Vs
open PySem PySem.Spec PyProof.Rows L2
section
variable {P : Program} {w : World} {K : PySem.W.Frag} {mg : Str → Option Value} {base : Heap} {CX : CXT} {k : Nat}
/-- what a def promises where p's object stands in the state -/
structure FnP (P : Program) (w : World) (K : PySem.W.Frag) (mg : Str → Option Value) (base : Heap) (CX : CXT) (k : Nat) (f : Addr) (fd : FuncData) (ps : List Str) (p : Addr × Obj) (sp : Sp) : Prop where
  len : ∀ vs H Q E, sp vs H Q E → vs.length = ps.length
  run : ∀ (A : Around) (outer : List Env) (s : Shared) (H : Hp) (args : Args) (us : List Value) (vs : List V) (Q : VK) (E : XK), L2H.RoomH k A → L2H.PinOk outer H s p → Env0 P w K mg base A outer s H → BindsTo s fd args (ps.zip us) → Vals vs us → sp vs H Q E →
    codeAny (model P w) A (.call (.ref f) args) (CR CX outer P w H s Q E) s
end
section
variable {X : Cx} {CX : CXT} {k : Nat} {f : Addr} {fd : FuncData} {ps : List Str} {sp : Sp} {E : L2.St → XK} {x : Str} {q pos : Pos} {e : Expr} {es : List Expr} {t : TA} {p : Addr × Obj}
end
/-- .. as the written part tells it: for every error caught -/
structure VFnP (P : Program) (w : World) (κ : Kx) (mg : Str → Option Value) (base : Heap) (x : Str) (k : Nat) (ms : List Bool) (g : Xo → FSem) : Prop where
  ex : ∃ (f : Addr) (fd : FuncData) (ps : List Str), mg x = some (.ref f) ∧ PySem.W.keepIn κ.K (.ref f) = true ∧ (∀ (a : Addr) (oe : Obj) (cls : Value) (d : Option Addr), Zc cls d oe → (∃ vs, oe.data = .fields vs) → FnP P w κ.K mg base (L2.CX P w) k f fd ps (a, oe) (spV κ ms (g ⟨a, cls, d⟩))) ∧ Binds κ.K fd ps []
section
variable {X : Cx} {κ : Kx} {W : WX} {e : Expr} {es : List Expr} {ms : List Bool} {g : Xo → FSem} {mr : Sm (List D)} {k : Nat} {x : Str} {p pos : Pos} {a : Addr} {oe : Obj} {cls : Value} {d : Option Addr} {pn : List (Addr × Obj)}
end
section
variable {X : Cx} {κ : Kx} {W : WX} {x : Str} {np : Pos} {i : Nat}
end
end Vs


set_option Elab.async false
set_option linter.all false
set_option maxRecDepth 100000
set_option maxHeartbeats 2000000
/-! Vc: tuples and lists that hold own lists; a thing of one's own given away for the time of one expression. -/
namespace Vs
open PySem PySem.Spec PyProof.Rows L2
/-- the own thing at slot i, taken out -/
def eO (i : Nat) : Sm Rs := fun env => match env[i]? with
  | some (.sh d) => some (.ok (.sh d) env)
  | some (.ow l) => some (.ok (.ow l) (env.set i .un))
  | some (.tr o) => some (.ok (.tr o) (env.set i .un))
  | _ => none
def aConsF (m : Sm Rs) (mr : Sm (List Fd)) : Sm (List Fd) := bnd m fun r => bnd mr fun fs e => match r.fd with
  | some f => some (.ok (f :: fs) e)
  | none => none
def aNilF : Sm (List Fd) := fun e => some (.ok [] e)
def RFA (κ : Kx) : Rl (List Fd) (List V) := fun _ N H G env vs fs => ∃ F, RFs κ H G vs fs F ∧ ∀ a, a ∈ F → Fre G env a ∧ N a
/-- a tuple, a list of things that may be own lists -/
def fSq (t : Bool) (m : Sm (List Fd)) : Sm Rs := bnd m fun fs e => if fs.length ≤ szl then some (.ok (.tr (.sq t fs)) e) else none
section
variable {X : Cx} {κ : Kx} {W : WX} {a : Expr} {es : List Expr} {pos : Pos} {ma : Sm Rs} {mr : Sm (List Fd)}
end
/-! ### several names, from an own tuple -/
def Fd.sl : Fd → Sl
  | .sh d => .sh d
  | .ow l => .ow l
def setFd : List Nat → List Fd → En → Option En
  | [], [], e => some e
  | i :: is, f :: fs, e => if i < e.length then setFd is fs (e.set i f.sl) else none
  | _, _, _ => none
def sTgF (is : List Nat) (m : Sm Rs) : Ss := sbnd m fun r e => match r with
  | .sh (.tup ds) => match setAll is ds e with
    | some e1 => some (.nx e1)
    | none => none
  | .tr (.sq true fs) => match setFd is fs e with
    | some e1 => some (.nx e1)
    | none => none
  | _ => none
section
variable {X : Cx} {κ : Kx} {W : WX}
end
/-! ### given away for the time of one expression -/
def D.atm : D → Bool
  | .non => true
  | .bl _ => true
  | .int _ => true
  | .str _ => true
  | _ => false
/-- the expression reads slot i's own thing as shared; its value holds nothing of it -/
def fTmp {α : Type} (ok : α → Bool) (i : Nat) (m : Sm α) : Sm α := fun e => match e[i]? with
  | some s => match s.mut, s.th with
    | true, some o => match o.d with
      | some d => match m (e.set i (.sh d)) with
        | some (.ok x _) => if ok x = true then some (.ok x e) else none
        | _ => none
      | none => none
    | _, _ => m e
  | none => none
section
variable {X : Cx} {κ : Kx} {W : WX}
theorem tmp_tr {α β : Type} {R : Rl α β} {ok : α → Bool} {i : Nat} {m : Sm α} (hR : ∀ {σ N N' H H' G G' env env' v x}, ok x = true → R σ N H G env v x → R σ N' H' G' env' v x) {σ : L2.St} {H : Hp} {Q : β → Hp → Prop} (h : tX κ W R (fTmp ok i m) σ H Q) : tX κ W R m σ H Q := by
  obtain ⟨G, env, r, q⟩ := h
  unfold fTmp at q
  cases z : env[i]? with
  | none => rw [z] at q; exact q.elim
  | some s =>
    rw [z] at q
    dsimp only at q
    cases hm : s.mut with
    | false => rw [hm] at q; exact ⟨G, env, r, q⟩
    | true =>
      rw [hm] at q
      cases ht : s.th with
      | none => rw [ht] at q; exact ⟨G, env, r, q⟩
      | some o =>
        rw [ht] at q
        dsimp only at q
        cases hd : o.d with
        | none => rw [hd] at q; exact q.elim
        | some d =>
          rw [hd] at q
          dsimp only at q
          obtain ⟨v0, G', g1, g2, g3, g4⟩ := r.give z ht hm hd
          refine ⟨G', env.set i (.sh d), g2, ?_⟩
          cases w : m (env.set i (.sh d)) with
          | none => rw [w] at q; exact q.elim
          | some y => cases y with
            | ex x e1 => rw [w] at q; exact q.elim
            | ok x e1 =>
              rw [w] at q
              dsimp only at q
              by_cases hx : ok x = true
              · rw [if_pos hx] at q
                intro v H1 G1 r1 rv s1 f1
                have sub : Sub κ G.g H1 := ⟨fun a o e => s1.at (r.sub a o e) (r.sub.n a o e), r.sub.n, r1.sub.t⟩
                refine q v H1 G (r.grow s1 (Same.refl _) sub (fun _ => rfl) fun j b ow => (r.own ow).2) (hR hx rv) s1 ?_
                exact Fr.same s1 (Same.refl _) (fun _ _ _ h _ => h) (fun _ _ _ h => h) fun _ _ _ h => ⟨h, rfl⟩
              · rw [if_neg hx] at q; exact q.elim
theorem t_tmp {e : Expr} {i : Nat} {m : Sm Bool} (h : PT X e (tX κ W RT m)) : PT X e (tX κ W RT (fTmp (fun _ => true) i m)) := PT.imp h fun σ H Q q => tmp_tr (R := RT) (fun _ r => r) q
end
end Vs


set_option Elab.async false
set_option linter.all false
set_option maxRecDepth 100000
set_option maxHeartbeats 2000000
/-! Vd: an except suite that raises NoUse; defs whose errors have no context. -/
namespace L2
open PySem PySem.Spec PyProof.Rows
section
variable {X : Cx} {C fI : Addr}
end
end L2
namespace Vs
open PySem PySem.Spec PyProof.Rows L2
/-- a def whose errors have no context keeps its function -/
structure VFnN (P : Program) (w : World) (κ : Kx) (mg : Str → Option Value) (base : Heap) (x : Str) (k : Nat) (ms : List Bool) (g : FSem) : Prop where
  ex : ∃ (f : Addr) (fd : FuncData) (ps : List Str), mg x = some (.ref f) ∧ PySem.W.keepIn κ.K (.ref f) = true ∧ FnOk P w κ.K mg base (L2N.CX P w) k f fd ps (spV κ ms g) ∧ Binds κ.K fd ps []
section
variable {X : Cx} {κ : Kx} {W : WX} {e a : Expr} {es : List Expr} {ms : List Bool} {g : FSem} {mr : Sm (List D)} {m : Sm D} {k : Nat} {x : Str} {p pos pos2 : Pos}
end
/-- except X, the suite may raise -/
def sTryR (xs : Nat → Nat → Option Bool) (h : Nat) (body suite : Ss) : Ss := fun e => match body e with
  | some (.ex x e1) => match xs x.c h with
    | some true => suite e1
    | some false => some (.ex x e1)
    | none => none
  | o => o
section
variable {X : Cx} {κ : Kx} {W : WX} {x : Str} {h : Nat} {xs : Nat → Nat → Option Bool} {body suite : List Stmt} {b₀ : Stmt} {np pos pos' : Pos} {mb m0 : Ss}
end
end Vs


set_option Elab.async false
set_option linter.all false
set_option maxRecDepth 100000
set_option maxHeartbeats 2000000
/-! Ve: the own lists within an own tuple or list, read and changed. -/
namespace Vs
open PySem PySem.Spec PyProof.Rows L2
def sqAt (e : En) (i : Nat) : Option (Bool × List Fd) := match e[i]? with
  | some (.tr (.sq t fs)) => some (t, fs)
  | _ => none
/-- the item's number within the thing at slot i -/
def RIt (κ : Kx) (i : Nat) : Rl Int V := fun σ _ H _ env v z => ∃ t fs k a xs, sqAt env i = some (t, fs) ∧ ixN fs.length z = some k ∧ σ[i]? = some (some (.ref a)) ∧ H a = some (sqH t xs) ∧ xs[k]? = some v
instance {κ : Kx} {i : Nat} : RlMono (RIt κ i) := ⟨fun _ q => q⟩
def eIxI (i : Nat) (mb : Sm D) : Sm Int := fun e0 => match sqAt e0 i with
  | none => none
  | some _ => bnd mb (fun d e => match d with
    | .int z => match sqAt e i with
      | some (_, fs) => match ixN fs.length z with
        | some k => if k < fs.length then some (.ok z e) else none
        | none => none
      | none => none
    | _ => none) e0
def fItm (i : Nat) (m : Sm Int) : Sm D := bnd m fun z e => match sqAt e i with
  | some (_, fs) => match ixN fs.length z with
    | some k => match fs[k]? with
      | some f => some (.ok f.d e)
      | none => none
    | none => none
  | none => none
def fItV (i : Nat) (m : Sm Int) : Sm D := bnd m fun z e => match sqAt e i with
  | some (_, fs) => match ixN fs.length z with
    | some k => match fs[k]? with
      | some (.sh d) => some (.ok d e)
      | _ => none
    | none => none
  | none => none
/-- the own list at item z of slot i changed -/
def chS (i : Nat) (z : Int) (f : List D → Option (List D)) (e : En) : Option En := match sqAt e i with
  | some (t, fs) => match ixN fs.length z with
    | some k => match fs[k]? with
      | some (.ow l) => match f l with
        | some l' => some (e.set i (.tr (.sq t (fs.set k (.ow l')))))
        | none => none
      | _ => none
    | none => none
  | none => none
section
variable {X : Cx} {κ : Kx} {W : WX} {σ : L2.St} {H H1 H2 : Hp} {G G1 G2 : Gh} {env e1 e2 : En} {i : Nat}
theorem sq_at {t : Bool} {fs : List Fd} (r : Rep κ H G σ env) (h : sqAt env i = some (t, fs)) : env[i]? = some (.tr (.sq t fs)) ∧ ∃ a xs F, σ[i]? = some (some (.ref a)) ∧ G.fp i = a :: F ∧ H a = some (sqH t xs) ∧ G.g a = none ∧ RFs κ H G xs fs F ∧ a ∉ F := by
  unfold sqAt at h
  split at h
  · rename_i t' fs' e
    cases h
    obtain ⟨v, h1, ro⟩ := (r.slot i _ e).th rfl
    refine ⟨e, ?_⟩
    generalize hF : G.fp i = F0 at ro
    cases ro with
    | @sq a _ xs _ F g1 g2 g3 g4 => exact ⟨a, xs, F, h1, rfl, g1, g2, g3, g4⟩
  · cases h
theorem sqH_inj {t t' : Bool} {xs ys : List V} (h : sqH t xs = sqH t' ys) : t = t' ∧ xs = ys := by
  cases t <;> cases t' <;> cases h <;> exact ⟨rfl, rfl⟩
theorem v_itm {x : Str} {np pos : Pos} {b : Expr} {mb : Sm D} (hK : X.K = κ.K) (hx : PE X (.Name x np) (tVar i)) (hb : PE X b (tX κ W (RB κ) mb)) (hs : PlainIx b) : PE X (.Subscript (.Name x np) b pos) (tX κ W (RIt κ i) (eIxI i mb)) :=
  PE.imp (pe_ix (r := rIx κ.K) (by rw [← hK]; exact ix_seq) hx hb hs) fun σ H Q ⟨G, env, r, q⟩ => by
    unfold eIxI at q
    cases w : sqAt env i with
    | none => rw [w] at q; exact q.elim
    | some tf =>
      obtain ⟨t, fs⟩ := tf
      rw [w] at q
      obtain ⟨_, a, xs, F, h1, h2, h3, h4, h5, h6⟩ := sq_at r w
      refine ⟨_, h1, ?_⟩
      refine bind_post r q fun d e1 y H1 G1 _ r1 ry s1 f1 q1 => ?_
      cases d with
      | int z =>
        dsimp only at q1
        cases w1 : sqAt e1 i with
        | none => rw [w1] at q1; exact q1.elim
        | some tf =>
          obtain ⟨t1, fs1⟩ := tf
          rw [w1] at q1
          dsimp only at q1
          obtain ⟨_, a1, xs1, F1, k1, k2, k3, k4, k5, k6⟩ := sq_at r1 w1
          rw [h1] at k1
          cases k1
          cases w2 : ixN fs1.length z with
          | none => rw [w2] at q1; exact q1.elim
          | some k =>
            rw [w2] at q1
            dsimp only at q1
            by_cases hk : k < fs1.length
            · rw [if_pos hk] at q1
              have ln := k5.len
              obtain ⟨u, hv⟩ : ∃ u, xs1[k]? = some u := ⟨_, List.getElem?_eq_getElem (by omega)⟩
              have ha : atI xs1 z = some u := by
                unfold atI
                rw [ln, w2]
                exact hv
              have fin := q1 u H1 G1 r1 ⟨t1, fs1, k, a, xs1, w1, w2, h1, k3, hv⟩ (Grw.refl _) Fr.refl
              cases t1 with
              | false => exact .inl ⟨a, xs1, z, _, rfl, RBq.int ry, SqL.of k3, ha, fin⟩
              | true => exact .inr (.inl ⟨a, xs1, z, _, rfl, RBq.int ry, SqT.of k3, ha, fin⟩)
            · rw [if_neg hk] at q1; exact q1.elim
      | _ => exact q1.elim
theorem it_rb {t : Bool} {fs : List Fd} {k : Nat} {z : Int} {v : V} {f : Fd} (r : Rep κ H G σ env) (h : RIt κ i σ (Nw H G env) H G env v z) (w1 : sqAt env i = some (t, fs)) (w2 : ixN fs.length z = some k) (w3 : fs[k]? = some f) :
    (∃ d, f = .sh d ∧ Rp κ G v d) ∨ ∃ a xs l, f = .ow l ∧ v = .ref a ∧ H a = some (.lst xs) ∧ RpA κ G xs l := by
  obtain ⟨t', fs', k', a, xs, g1, g2, g3, g4, g5⟩ := h
  rw [w1] at g1
  cases g1
  rw [w2] at g2
  cases g2
  obtain ⟨_, a', xs', F, k1, k2, k3, k4, k5, k6⟩ := sq_at r w1
  rw [g3] at k1
  cases k1
  rw [g4] at k3
  obtain ⟨_, rfl⟩ := sqH_inj (Option.some.inj k3)
  obtain ⟨u, u1, u2⟩ := k5.at w3
  rw [g5] at u1
  cases u1
  rcases u2 with u2 | ⟨a, xs, l, e1, e2, e3, e4, e5, e6⟩
  · exact .inl u2
  · exact .inr ⟨a, xs, l, e1, e2, e3, e5⟩
theorem b_itm {e : Expr} {m : Sm Int} (h : PE X e (tX κ W (RIt κ i) m)) : PE X e (tX κ W (RB κ) (fItm i m)) := PE.imp h fun σ H Q ⟨G, env, r, q⟩ => bind_post r q fun z e1 v H1 G1 _ r1 rv s1 f1 q1 => by
  cases w1 : sqAt e1 i with
  | none => rw [w1] at q1; exact q1.elim
  | some tf =>
    obtain ⟨t, fs⟩ := tf
    rw [w1] at q1
    dsimp only at q1
    cases w2 : ixN fs.length z with
    | none => rw [w2] at q1; exact q1.elim
    | some k =>
      rw [w2] at q1
      dsimp only at q1
      cases w3 : fs[k]? with
      | none => rw [w3] at q1; exact q1.elim
      | some f =>
        rw [w3] at q1
        rcases it_rb r1 rv w1 w2 w3 with ⟨d, rfl, rp⟩ | ⟨a, xs, l, rfl, rfl, h1, h2⟩
        · exact q1 v H1 G1 r1 (.inl rp) (Grw.refl _) Fr.refl
        · exact q1 _ H1 G1 r1 (.inr ⟨a, xs, l, rfl, rfl, h1, h2⟩) (Grw.refl _) Fr.refl
/-- the change of an item's own list -/
theorem chS_of {z : Int} {g : List D → Option (List D)} {v : V} {a : Addr} {t0 : Bool} {xs0 : List V} {k0 : Nat} (r : Rep κ H G σ env) (h : chS i z g env = some e1) (g3 : σ[i]? = some (some (.ref a))) (g4 : H a = some (sqH t0 xs0)) (g5 : ixN xs0.length z = some k0) (g6 : xs0[k0]? = some v) :
    ∃ b ys l l', v = .ref b ∧ H b = some (.lst ys) ∧ RpA κ G ys l ∧ g l = some l' ∧ ∀ zs, RpA κ G zs l' → ∃ G', G'.g = G.g ∧ Rep κ (upd H b (.lst zs)) G' σ e1 ∧ Fr H G σ env (upd H b (.lst zs)) G' σ e1 := by
  unfold chS at h
  cases w1 : sqAt env i with
  | none => rw [w1] at h; cases h
  | some tf =>
    obtain ⟨t, fs⟩ := tf
    rw [w1] at h
    dsimp only at h
    obtain ⟨es, a', xs, F, k1, k2, k3, k4, k5, k6⟩ := sq_at r w1
    rw [g3] at k1
    cases k1
    rw [g4] at k3
    obtain ⟨rfl, rfl⟩ := sqH_inj (Option.some.inj k3)
    rw [← k5.len] at h
    rw [g5] at h
    dsimp only at h
    cases w3 : fs[k0]? with
    | none => rw [w3] at h; cases h
    | some f =>
      rw [w3] at h
      cases f with
      | sh d => cases h
      | ow l =>
        dsimp only at h
        cases w4 : g l with
        | none => rw [w4] at h; cases h
        | some l' =>
          rw [w4] at h
          cases h
          obtain ⟨u, u1, u2⟩ := k5.at w3
          rw [g6] at u1
          cases u1
          rcases u2 with ⟨d, e, _⟩ | ⟨b, ys, l2, e, e2, e3, e4, e5, e6⟩
          · cases e
          · cases e
            subst e2
            refine ⟨b, ys, l, l', rfl, e3, e5, w4, fun zs hz => ?_⟩
            have nb : a ≠ b := fun q => k6 (q ▸ e6)
            have fs' := RFs.chg (κ := κ) (G := G) (H := upd H b (.lst zs)) (b := b) upd_same hz H k0 l k5 w3 g6 (fun a u n hu => by rw [upd_ne n]; exact hu)
            have ro : RO κ (upd H b (.lst zs)) G (.ref a) (.sq t0 (fs.set k0 (.ow l'))) (a :: F) := .sq (by rw [upd_ne nb]; exact g4) k4 fs' k6
            exact r.chgO (s' := .tr (.sq t0 (fs.set k0 (.ow l')))) es rfl rfl rfl (fun q => by cases q) rfl g3 ro (fun c u hu m => by
              have n : c ≠ b := fun q => m (by rw [k2, q]; exact List.mem_cons_of_mem _ e6)
              rw [upd_ne n]
              exact hu) fun c m => .inl (by rw [k2]; exact m)
theorem it_at {z : Int} {v : V} (r : Rep κ H G σ env) (h : RIt κ i σ (Nw H G env) H G env v z) : ∃ t xs a k, σ[i]? = some (some (.ref a)) ∧ H a = some (sqH t xs) ∧ ixN xs.length z = some k ∧ xs[k]? = some v := by
  obtain ⟨t, fs, k, a, xs, g1, g2, g3, g4, g5⟩ := h
  obtain ⟨_, a', xs', F, k1, k2, k3, k4, k5, k6⟩ := sq_at r g1
  rw [g3] at k1
  cases k1
  rw [g4] at k3
  obtain ⟨_, rfl⟩ := sqH_inj (Option.some.inj k3)
  exact ⟨t, xs, a, k, g3, g4, by rw [k5.len]; exact g2, g5⟩
/-! ### statements -/
def sItC (i : Nat) (mo : Sm Int) : Ss := sbnd mo fun z e => match chS i z (fun _ => some []) e with
  | some e1 => some (.nx e1)
  | none => none
def sItA (i : Nat) (mo : Sm Int) (m : Sm D) : Ss := sbnd mo fun z e0 => match chS i z some e0 with
  | some _ => sbnd m (fun d e => match chS i z (fun l => if l.length < szl then some (l ++ [d]) else none) e with
    | some e1 => some (.nx e1)
    | none => none) e0
  | none => none
def sItI (i : Nat) (mo : Sm Int) (mj m : Sm D) : Ss := sbnd mo fun z e0 => match chS i z some e0 with
  | some _ => sbnd mj (fun j => sbnd m fun d e => match j with
    | .int y => match chS i z (fun l => if 0 ≤ y ∧ y ≤ 1000000 ∧ l.length < szl then some (l.take y.toNat ++ [d] ++ l.drop y.toNat) else none) e with
      | some e1 => some (.nx e1)
      | none => none
    | _ => none) e0
  | none => none
def sItS (i : Nat) (mo : Sm Int) (mj m : Sm D) : Ss := sbnd m fun d => sbnd mo fun z => sbnd mj fun j e => match j with
  | .int y => match chS i z (fun l => opSetI l y d) e with
    | some e1 => some (.nx e1)
    | none => none
  | _ => none
variable {o e ej : Expr} {mo : Sm Int} {mj m : Sm D} {apos cpos pos p2 : Pos}
theorem s_itS (ho : PE X o (tX κ W (RIt κ i) mo)) (hj : PE X ej (tX κ W (RB κ) mj)) (he : PE X e (tX κ W (RP κ) m))
    (hg : PG X (.Subscript o ej p2) (gSub (tX κ W (RIt κ i) mo) (tX κ W (RB κ) mj) rSetL))
    (hs : swapsWithSole [.Subscript o ej p2] e pos.line X.env = pure false := by rfl) (hw : swappedStores [.Subscript o ej p2] e X.env = pure none := by rfl) :
    PS X (.Assign [.Subscript o ej p2] e pos) (tS κ W (sItS i mo mj m)) := PS.imp (ps_asg he hg hs hw) fun D σ H ⟨G, env, r, q⟩ => by
  refine sbind_postX r q fun d e1 u H1 G1 _ r1 ru s1 f1 q1 => ?_
  refine sbind_postX r1 q1 fun z e2 v H2 G2 _ r2 rv s2 f2 q2 => ?_
  refine sbind_postX r2 q2 fun j e3 y H3 G3 _ r3 ry s3 f3 q3 => ?_
  cases j with
  | int t =>
    dsimp only at q3
    cases hc : chS i z (fun l => opSetI l t d) e3 with
    | none => rw [hc] at q3; exact q3.elim
    | some e4 =>
      rw [hc] at q3
      obtain ⟨t0, xs, a, k, g3, g4, g5, g6⟩ := it_at r2 rv
      obtain ⟨b, ys, l, l', rfl, k2, k3, k4, k5⟩ := chS_of r3 hc g3 (s3.at g4 (sqH_pln _ _).1) g5 g6
      unfold opSetI at k4
      cases w2 : ixN l.length t with
      | none => rw [w2] at k4; cases k4
      | some n =>
        rw [w2] at k4
        cases k4
        obtain ⟨G4, _, r4, f4⟩ := k5 (ys.set n u) (k3.set (Rp.mono (f2.gk.trans f3.gk) ru) n)
        exact ⟨b, ys, t, n, rfl, RBq.int ry, k2, by rw [k3.length]; exact w2, q3 σ _ G4 r4 f4⟩
  | _ => exact q3.elim
end
end Vs


set_option Elab.async false
set_option linter.all false
set_option maxRecDepth 100000
set_option maxHeartbeats 2000000
/-! Vk: sorted(xs, key=f) where the keys are data that hold lists. -/
namespace Vs
open PySem PySem.Spec PyProof.Rows L2
/-- a heap without the object at c -/
def lessAt (h : Heap) (c : Addr) : Heap := h.update c fun o => { o with data := .freed }
/-- the pairs sorted by their keys -/
noncomputable def sortP {α : Type} (l : List (α × PyData)) : List (α × PyData) := l.mergeSort (PySem.W.dataLe false Prod.snd)
section
variable {X : Cx} {pins : List (Addr × Obj)} {σ : L2.St} {H : Hp} {s : Shared}
end
/-- f(x) gives the key of x, whatever has come to be since; P0 stay pinned -/
def KeyFn (X : Cx) (κ : Kx) (σ : L2.St) (f : Value) (P0 : List (Addr × Obj)) (key : D → Option D) (H0 G0 : Hp) : Prop :=
  ∀ (H1 G1 : Hp) (pins1 : List (Addr × Obj)) (s1 : Shared) (x : V) (u : Value) (d k : D) (P : VK), Grw H0 H1 → Same G0 G1 → Sub κ G1 H1 → (∀ p ∈ P0, p ∈ pins1) → Inv X pins1 σ H1 s1 → RelV x u → Rp κ G1 x d → key d = some k →
    (∀ v H2 G2, Grw H1 H2 → Same G1 G2 → Sub κ G2 H2 → (∀ a o, H1 a = some o → G1 a = none → G2 a = none) → Rp κ G2 v k → P v H2) → wpAny (model X.prog X.w) X.A.in1.in1 (call f [u]) (EP X pins1 σ P) (fun _ _ => False) s1
def keysOf (key : D → Option D) : List D → Option (List D)
  | [] => some []
  | d :: ds => match key d, keysOf key ds with
    | some k, some ks => some (k :: ks)
    | _, _ => none
def okKs (ks : List D) : Prop := (∀ k ∈ ks, k.pl = true ∧ k.toP.depth ≤ 64) ∧ PySem.W.AllAlike (ks.map D.toP) ∧ PySem.W.Sortable (ks.map D.toP)
noncomputable def sortD (ds ks : List D) : List D := (sortP (ds.zip (ks.map D.toP))).map Prod.fst
theorem RpA.at {κ : Kx} {G : Hp} : ∀ {xs : List V} {ds : List D}, RpA κ G xs ds → ∀ {i : Nat} {x : V}, xs[i]? = some x → ∃ d, ds[i]? = some d ∧ Rp κ G x d
  | _, _, .nil, i, x, e => by simp at e
  | _, _, .cons r t, 0, x, e => by
    simp only [List.getElem?_cons_zero, Option.some.injEq] at e
    subst e
    exact ⟨_, rfl, r⟩
  | _, _, .cons r t, i + 1, x, e => by
    simp only [List.getElem?_cons_succ] at e
    exact RpA.at t e
section
variable {X : Cx} {pins : List (Addr × Obj)} {σ : L2.St} {H G : Hp} {s : Shared} {κ : Kx}
end
/-! ### key=o.m, a bound method -/
def tBd (K : PySem.W.Frag) (m : Str) (to : TE) : TE := fun σ H Q => to σ H fun x H1 => ∃ a C dx fs g, x = .ref a ∧ H1 a = some (.ins C dx fs) ∧ Cls K C ∧ BMeth K C m g ∧ fs.lookup m = none ∧ ∀ q, H1 q = none → Q (.ref q) (upd H1 q (.met g a))
def keyM (gs : Nat → Option FSem) (o : D) : D → Option D := fun d => match o with
  | .ob c _ => match gs c with
    | some g => match g [o, d] with
      | some (.rt (.sh k)) => some k
      | _ => none
    | none => none
  | _ => none
open Classical in
noncomputable def opSort (key : D → Option D) (l : List D) : Option (List D) := match keysOf key l with
  | some ks => if okKs ks then some (sortD l ks) else none
  | none => none
noncomputable def fSortB (gs : Nat → Option FSem) (m mo : Sm D) : Sm Rs := bnd m fun d => bnd mo fun o e => match d, o with
  | .lst l, .ob c fl => match gs c with
    | some _ => match opSort (keyM gs (.ob c fl)) l with
      | some r => some (.ok (.ow r) e)
      | none => none
    | none => none
  | _, _ => none
def VB (κ : Kx) (m : Str) (gs : Nat → Option FSem) : Prop := ∀ c g, gs c = some g → ∃ f, BMeth κ.K (κ.cl c) m f
/-- what sorted(l, key=q) wants -/
def rSK (X : Cx) (κ : Kx) : List V → List V → Hp → VK → Prop := fun vs zs H Q => ∃ (l q : Addr) (xs : List V) (ds ks : List D) (G : Hp) (key : D → Option D), vs = [.ref l] ∧ zs = [.ref q] ∧ SqL X.K H l xs ∧ Sub κ G H ∧ RpA κ G xs ds ∧ (∀ pins σ, KeyFn X κ σ (.ref q) pins key H G) ∧ keysOf key ds = some ks ∧ okKs ks ∧
  ∀ p ys H' G', Grw H H' → Same G G' → Sub κ G' H' → (∀ a o, H a = some o → G a = none → G' a = none) → H p = none → H' p = none → RpA κ G' ys (sortD ds ks) → Q (.ref p) (upd H' p (.lst ys))
section
variable {X : Cx} {κ : Kx} {W : WX} {e o : Expr} {gs : Nat → Option FSem} {me mo : Sm D} {k : Nat} {m : Str} {p pos apos kpos : Pos}
end
/-! ### xs.remove(e), texts -/
def eqS (k : Str) (v : Value) : Bool := match v with
  | .str n _ => n.cps.toList == k.cps.toList
  | _ => false
def rRemS : V → List V → Hp → VK → Prop := fun x xs H Q => ∃ (l : Addr) (ws : List (List Nat)) (k : List Nat) (j : Nat), x = .ref l ∧ xs = [.str (S k)] ∧ H l = some (.lst ((ws.map S).map V.str)) ∧ ws[j]? = some k ∧ (∀ m : Nat, m < j → ws[m]? ≠ some k) ∧ Q .non (upd H l (.lst (((ws.eraseIdx j).map S).map V.str)))
def remS (k : List Nat) (l : List D) : Option (List D) := match allStrs l with
  | some ws => if k ∈ ws then some ((ws.erase k).map D.str) else none
  | none => none
def sRem (i : Nat) (m : Sm D) : Ss := sOwn i (sbnd m fun d => match d with
  | .str k => chL i (remS k)
  | _ => fun _ => none)
section
variable {X : Cx} {κ : Kx} {W : WX} {e : Expr} {m : Sm D} {pos pos' : Pos}
end
end Vs


set_option Elab.async false
set_option linter.all false
set_option maxRecDepth 100000
set_option maxHeartbeats 2000000
/-! Vl: sorted(xs, key=lambda x: ..). -/
namespace Vs
open PySem PySem.Spec PyProof.Rows L2
section
variable {X : Cx} {pins : List (Addr × Obj)} {σ : L2.St} {H : Hp} {s : Shared}
/-- a lambda's names: one parameter, captured ones, its own -/
structure LamP (so sc : Scope) (x : Str) : Prop where
  kind : sc.kind = .function
  co : sc.isCoroutine = false
  gn : sc.isGenerator = false
  par : sc.names.lookup x = some .local
  nc : ∀ y ∈ sc.names, y.2 ≠ .cell
  fr : ∀ y ∈ sc.names, y.2 = .free → so.names.lookup y.1 = some .cell ∨ so.names.lookup y.1 = some .free
def lamPB (so sc : Scope) (x : Str) : Bool := decide (sc.kind = .function) && (!sc.isCoroutine && (!sc.isGenerator && (decide (sc.names.lookup x = some .local) && sc.names.all fun y => decide (y.2 ≠ .cell) && (decide (y.2 ≠ .free) || (decide (so.names.lookup y.1 = some .cell) || decide (so.names.lookup y.1 = some .free))))))
def lcx (X : Cx) (A : Around) (outer : List Env) (s : Shared) (H : Hp) (sc : Scope) (f e : Addr) (N : List Str) : Cx := { LamX.lamCx X A outer s H (fun _ _ _ => False) sc f e with N := N }
end
/-! ### sorted(xs, key=lambda x: e) as a function -/
/-- a captured name's slot, as the lambda sees it -/
def frS : Sl → Option Sl
  | .sh d => some (.sh d)
  | .bo l => some (.bo l)
  | .ow l => some (.bo l)
  | .lk l => some (.bo l)
  | _ => none
def frL : List Nat → En → Option En
  | [], _ => some []
  | j :: js, e => match e[j]? with
    | some s => match frS s, frL js e with
      | some t, some r => some (t :: r)
      | _, _ => none
    | none => none
def keyL (fr : En) (k : Nat) (mb : Sm D) : D → Option D := fun d => match mb (fr ++ .sh d :: List.replicate k .un) with
  | some (.ok r _) => some r
  | _ => none
noncomputable def fSortL (js : List Nat) (k : Nat) (mb m : Sm D) : Sm Rs := bnd m fun d e => match d with
  | .lst l => match frL js e with
    | some fr => match opSort (keyL fr k mb) l with
      | some r => some (.ok (.ow r) e)
      | none => none
    | none => none
  | _ => none
section
variable {κ : Kx}
theorem SlIn.mono {H H' G G' : Hp} {v : Option V} {t : Sl} (h : Grw H H') (g : Same G G') (n : ∀ o, t ≠ .io o) (q : SlIn κ H G [] v t) : SlIn κ H' G' [] v t := by
  cases t with
  | un => exact trivial
  | sh d =>
    obtain ⟨x, h1, h2⟩ := q
    exact ⟨x, h1, h2.mono g⟩
  | bo l =>
    obtain ⟨a, xs, h1, h2, h3, h4⟩ := q
    exact ⟨a, xs, h1, h.at h2, h3.mono g, h4⟩
  | io o => exact (n o rfl).elim
  | ow l => exact q.elim
  | lk l => exact q.elim
  | tr o => exact q.elim
end
section
variable {X : Cx} {κ : Kx} {H G : Hp} {σ : L2.St}
theorem KeyFn.more {f : Value} {P0 P1 : List (Addr × Obj)} {key : D → Option D} (h : KeyFn X κ σ f P0 key H G) (k : ∀ p ∈ P0, p ∈ P1) : KeyFn X κ σ f P1 key H G := fun H1 G1 pins1 s1 x u d r P gh gg sb hp => h H1 G1 pins1 s1 x u d r P gh gg sb fun p m => hp p (k p m)
end
/-! ### a def whose code object is told; the law's end with tables -/
end Vs
namespace L2
open PySem PySem.Spec PyProof.Rows
end L2
namespace Vs
open PySem PySem.Spec PyProof.Rows L2
/-- the tables of the defs named ns are empty at h -/
def DefTabs (K : PySem.W.Frag) (mg : Str → Option Value) (h : Heap) (ns : List Str) : Prop := ∀ n ∈ ns, ∀ (fa c P : Addr) (o : Obj) (fd : FuncData) (e : Value) (dd : Option Addr) (vs : Array Value) (sl : Array (Option Value)), mg n = some (.ref fa) → K.lookup fa = some o → o.data = .func fd → fd.code = .ref c →
  K.lookup c = some ⟨e, dd, .fields vs, sl⟩ → vs[11]? = some (.ref P) → h.get? P = some { cls := .none, data := .fields #[] } ∧ PySem.W.CodeHd h c P
def spLawT (K : PySem.W.Frag) (T : List (Addr × Str)) : Sp := fun vs H Q E => LamX.Tabs T H ∧ spLaw K vs H Q E
/-- what is told of the law at the head's heap -/
def LawT (l : PySem.W.OpenLaw) (w : World) (K : PySem.W.Frag) (k : Nat) (x : Str) (mg : Str → Option Value) (fa : Addr) (h : Heap) : Prop := ∃ (fd : FuncData) (cs : List (Addr × Addr)) (T : List (Addr × Str)), (∀ p ∈ T, ∃ r ∈ cs, r.2 = p.1) ∧ (∀ p ∈ cs, h.get? p.2 = some { cls := .none, data := .fields #[] }) ∧ (∀ p ∈ cs, K.lookup p.2 = none) ∧
  (∀ p ∈ cs, PySem.W.CodeHd h p.1 p.2) ∧ (∀ (s : Shared) (u : Value), BindsTo s fd ⟨[u], []⟩ [(x, u)]) ∧ ∀ base : Heap, K.In base → base.Ns mainGlobals mg → (∀ p ∈ cs, LamX.TabB base mg p.1 p.2) → FnOk l.prog w K mg base (L2.CX l.prog w) k fa fd [x] (spLawT K T)
end Vs


set_option Elab.async false
set_option linter.all false
set_option maxRecDepth 100000
set_option maxHeartbeats 2000000
/-! Vn: a < b < c as a value; min of two tuples. -/
namespace Vs
open PySem PySem.Spec PyProof.Rows L2
section
variable {X : Cx} {κ : Kx} {W : WX} {a b c : Expr} {ma mb mc : Sm D} {pos : Pos}
def fChV (f g : D → D → Option Bool) (ma mb mc : Sm D) : Sm D := bnd ma fun x => bnd mb fun y => fun e => match f x y with
  | none => none
  | some false => some (.ok (.bl false) e)
  | some true => bnd mc (fun z => fun e => match g y z with
    | some b => some (.ok (.bl b) e)
    | none => none) e
end
/-! ### min of two that are data -/
section
variable {prog : Program} {w : World} {A : Around} {E : Value → Shared → Prop} {s : Shared}
end
def rMinD (K : PySem.W.Frag) : List V → Hp → VK → Prop := fun vs H Q => ∃ (x y : V) (dx dy : PyData), vs = [x, y] ∧ Dp K H x dx ∧ Dp K H y dy ∧ PySem.W.AlikeAll [dx, dy] ∧ PyData.depthAll [dx, dy] ≤ 64 ∧ Q (if PySem.W.dataLt dy dx = true then y else x) H
open Classical in
noncomputable def opMinT : List D → Option Rs
  | [.tup a, .tup b] => if (D.tup a).pl = true ∧ (D.tup b).pl = true ∧ PySem.W.AlikeAll [(D.tup a).toP, (D.tup b).toP] ∧ PyData.depthAll [(D.tup a).toP, (D.tup b).toP] ≤ 64 then some (.sh (if PySem.W.dataLt (D.tup b).toP (D.tup a).toP = true then .tup b else .tup a)) else none
  | _ => none
end Vs


set_option Elab.async false
set_option linter.all false
set_option maxRecDepth 100000
set_option maxHeartbeats 2000000
/-! Vo: own dicts with numbers and texts for keys. -/
namespace Vs
open PySem PySem.Spec PyProof.Rows L2
def D.key : D → Bool
  | .int _ => true
  | .str _ => true
  | _ => false
/-- what stands at a key -/
def dcG (k : D) : List (D × D) → Option D
  | [] => none
  | p :: r => if p.1.feq k = true then some p.2 else dcG k r
/-- a key's value put: in its place, or at the end -/
def dcP (k v : D) (l : List (D × D)) : List (D × D) := if (l.any fun p => p.1.feq k) = true then l.map (fun p => if p.1.feq k = true then (p.1, v) else p) else l ++ [(k, v)]
def keyD : D → Key
  | .int i => .inl i
  | .str w => .inr (S w)
  | _ => .inl 0
theorem kD_feq (a b : Key) : (kD a).feq (kD b) = decide (a = b) := by
  cases a with
  | inl i =>
    cases b with
    | inl j =>
      show (i == j) = _
      rw [Bool.eq_iff_iff]
      simp
    | inr y => simp [kD, D.feq]
  | inr x =>
    cases b with
    | inl j => simp [kD, D.feq]
    | inr y =>
      show (x.cps.toList == y.cps.toList) = _
      rw [Bool.eq_iff_iff]
      simp only [beq_iff_eq, decide_eq_true_eq, Sum.inr.injEq]
      constructor
      · intro h
        rw [← S_list x, ← S_list y]
        show S x.cps.toList = S y.cps.toList
        rw [h]
      · intro h
        rw [h]
section
variable {κ : Kx} {G H : Hp}
theorem RDc.get {kvs : List (Key × V)} {ds : List (D × D)} (r : RDc κ G kvs ds) (k : Key) : match valV kvs k, dcG (kD k) ds with
    | some v, some d => Rp κ G v d
    | none, none => True
    | _, _ => False := by
  induction r with
  | nil => exact True.intro
  | @cons j v d r ds h t ih =>
    by_cases e : j = k
    · rw [valV_pos (p := (j, v)) e, dcG, if_pos (show (kD j).feq (kD k) = true by rw [kD_feq]; exact decide_eq_true e)]
      exact h
    · rw [valV_neg (p := (j, v)) e, dcG, if_neg (show ¬ (kD j).feq (kD k) = true by rw [kD_feq]; simpa using e)]
      exact ih
theorem RDc.any {kvs : List (Key × V)} {ds : List (D × D)} (r : RDc κ G kvs ds) (k : Key) : (kvs.any fun p => decide (p.1 = k)) = ds.any fun p => p.1.feq (kD k) := by
  induction r with
  | nil => rfl
  | @cons j v d r ds h t ih => rw [List.any_cons, List.any_cons, ih, kD_feq]
theorem RDc.put1 {kvs : List (Key × V)} {ds : List (D × D)} (r : RDc κ G kvs ds) (k : Key) {v : V} {d : D} (h : Rp κ G v d) : RDc κ G (kvs.map fun p => if p.1 = k then (p.1, v) else p) (ds.map fun p => if p.1.feq (kD k) = true then (p.1, d) else p) := by
  induction r with
  | nil => exact .nil
  | @cons j u e r ds h1 t ih =>
    rw [List.map_cons, List.map_cons]
    by_cases q : j = k
    · rw [if_pos (show (j, u).1 = k from q), if_pos (show (kD j).feq (kD k) = true by rw [kD_feq]; exact decide_eq_true q)]
      exact .cons h ih
    · rw [if_neg (show ¬ (j, u).1 = k from q), if_neg (show ¬ (kD j).feq (kD k) = true by rw [kD_feq]; simpa using q)]
      exact .cons h1 ih
theorem RDc.snoc {kvs : List (Key × V)} {ds : List (D × D)} (r : RDc κ G kvs ds) (k : Key) {v : V} {d : D} (h : Rp κ G v d) : RDc κ G (kvs ++ [(k, v)]) (ds ++ [(kD k, d)]) := by
  induction r with
  | nil => exact .cons h .nil
  | cons h1 t ih => exact .cons h1 ih
theorem RDc.put {kvs : List (Key × V)} {ds : List (D × D)} (r : RDc κ G kvs ds) (k : Key) {v : V} {d : D} (h : Rp κ G v d) : RDc κ G (putK kvs k v) (dcP (kD k) d ds) := by
  unfold putK dcP
  rw [← r.any k]
  split
  · exact r.put1 k h
  · exact r.snoc k h
theorem RDc.length {kvs : List (Key × V)} {ds : List (D × D)} (r : RDc κ G kvs ds) : kvs.length = ds.length := by
  induction r with
  | nil => rfl
  | cons _ _ ih => rw [List.length_cons, List.length_cons, ih]
theorem RDc.keys {kvs : List (Key × V)} {ds : List (D × D)} (r : RDc κ G kvs ds) : RpA κ G ((kvs.map Prod.fst).map kV) (ds.map Prod.fst) := by
  induction r with
  | nil => exact .nil
  | @cons k v d r ds h t ih =>
    refine .cons ?_ ih
    cases k with
    | inl i => exact .int i
    | inr x =>
      have := Rp.str (κ := κ) (G := G) x.cps.toList
      rw [show S x.cps.toList = x from S_list x] at this
      exact this
end
/-- {} -/
def fDNew : Sm Rs := fun e => some (.ok (.tr (.dc [])) e)
/-- d[m] -/
def fDGet (i : Nat) (m : Sm D) : Sm D := fun env => match env[i]? with
  | some (.tr (.dc _)) => bnd m (fun k e => match e[i]? with
    | some (.tr (.dc l)) => if k.key = true then match dcG k l with
      | some d => some (.ok d e)
      | none => none else none
    | _ => none) env
  | _ => none
/-- d[mk] = m -/
def sDPutV (i : Nat) (mk m : Sm D) : Ss := sbnd m fun d env => match env[i]? with
  | some (.tr (.dc _)) => sbnd mk (fun k e => match e[i]? with
    | some (.tr (.dc l)) => if k.key = true ∧ l.length < szl then some (.nx (e.set i (.tr (.dc (dcP k d l))))) else none
    | _ => none) env
  | _ => none
/-- d.setdefault(mk, m) -/
def fDSet (i : Nat) (mk m : Sm D) : Sm D := fun env => match env[i]? with
  | some (.tr (.dc _)) => bnd mk (fun k => bnd m fun d e => match e[i]? with
    | some (.tr (.dc l)) => if k.key = true ∧ l.length < szl then match dcG k l with
      | some x => some (.ok x e)
      | none => some (.ok d (e.set i (.tr (.dc (dcP k d l)))))
      else none
    | _ => none) env
  | _ => none
section
variable {X : Cx} {κ : Kx} {W : WX} {e a b : Expr} {m mk : Sm D} {pos pos' p2 : Pos}
end
/-! ### range with a step -/
def rngC (lo c : Int) (n : Nat) : List D := (List.range n).map fun (k : Nat) => D.int (lo + (k : Int) * c)
def fRg3 (m : Sm (List D)) : Sm (List D) := bnd m fun ds e => match ds with
  | [.int i, .int j, .int c] => if (j ≤ 1000000 ∧ -1000000 ≤ j) ∧ (i ≤ 1000000 ∧ -1000000 ≤ i) ∧ 0 < c ∧ c ≤ 1000000 then some (.ok (rngC i c ((j - i + c - 1) / c).toNat) e) else none
  | _ => none
section
variable {X : Cx} {κ : Kx} {W : WX} {a b c : Expr} {tg : Expr} {p pos : Pos} {ms : Sm (List D)}
theorem RBs.three {κ : Kx} {H G : Hp} {vs : List V} {d e f : D} (r : RBs κ H G [true, true, true] vs [d, e, f]) : ∃ v u w, vs = [v, u, w] ∧ RBq κ H G v d ∧ RBq κ H G u e ∧ RBq κ H G w f := by
  cases r with
  | bo r t =>
    obtain ⟨u, w, rfl, r2, r3⟩ := t.two
    exact ⟨_, _, _, rfl, r, r2, r3⟩
end
end Vs


set_option Elab.async false
set_option linter.all false
set_option maxRecDepth 100000
set_option maxHeartbeats 2000000
/-! Vp: comprehensions whose items are own lists: the new list holds own lists. -/
namespace Vs
open PySem PySem.Spec PyProof.Rows L2
section
variable {κ : Kx} {H H' : Hp} {G G' : Gh} {σ σ' : L2.St} {env env' : En} {L : Addr}
theorem rep_updO {xs ys : List V} (r : Rep κ H G σ env) (dh : H L = some (.lst xs)) (dg : G.g L = none) (df : Fre G env L) : Rep κ (upd H L (.lst ys)) G σ env := by
  have ne : ∀ {i : Nat} {s : Sl} {b : Addr}, env[i]? = some s → b ∈ G.fp i → b ≠ L := fun {i s b} e m z => df i s e (z ▸ m)
  refine ⟨⟨same_upd r.sub.s dg, r.sub.n, tabs_of r.sub.t fun a o e np => by
    by_cases z : a = L
    · rw [z, dh] at e
      cases e
      exact (np ⟨(fun _ z => nomatch z), (fun _ z => nomatch z)⟩).elim
    · rw [upd_ne z]
      exact e⟩, r.len, fun i s e => ?_, r.inj⟩
  have t := r.slot i s e
  have th : ∀ {o : O}, s.th = some o → RSl κ (upd H L (.lst ys)) G σ[i]? (G.fp i) s := fun {o} z => by
    obtain ⟨x, h1, h2⟩ := t.th z
    exact .of z h1 (h2.grow (Same.refl _) (fun b u m h => by rw [upd_ne (ne e m)]; exact h) fun b m => (h2.own m).2)
  cases s with
  | un => exact t
  | sh x => exact t
  | ow m => exact th rfl
  | lk m => exact th rfl
  | io m => exact th rfl
  | tr m => exact th rfl
  | bo m =>
    obtain ⟨b, zs, t1, t2, t4, t5⟩ := t
    exact ⟨b, zs, t1, by rw [upd_ne (ne e (by rw [t5]; exact List.mem_singleton_self b))]; exact t2, t4, t5⟩
/-- the list that is made, of own lists -/
structure DO (κ : Kx) (H : Hp) (G : Gh) (env : En) (N : Addr → Prop) (L : Addr) (F : List Addr) (acc : List Fd) (xs : List V) : Prop where
  h : H L = some (.lst xs)
  g : G.g L = none
  f : Fre G env L
  r : RFs κ H G xs acc F
  n : L ∉ F
  o : ∀ a, a ∈ F → Fre G env a ∧ N a
theorem DO.keep {N : Addr → Prop} {F : List Addr} {acc : List Fd} {xs : List V} (r : Rep κ H G σ env) (r' : Rep κ H' G' σ' env') (d : DO κ H G env N L F acc xs) (s : Grw H H') (f : Fr H G σ env H' G' σ' env') : DO κ H' G' env' N L F acc xs :=
  ⟨s.at d.h, f.gn L _ d.h d.g d.f.mt, d.f.keep r r' f d.h d.g, d.r.grow f.gk (fun a o m e => s.at e (d.r.pl m e).1) (fun a m => by
    obtain ⟨⟨o, h⟩, g⟩ := d.r.own m
    exact f.gn a o h g (d.o a m).1.mt), d.n, fun a m => by
    obtain ⟨⟨o, h⟩, g⟩ := d.r.own m
    exact ⟨(d.o a m).1.keep r r' f h g, (d.o a m).2⟩⟩
end
def lcLO (f : D → En → Option En) (tt : Sm Bool) (te : Sm Rs) (vs : List Nat) : List D → List Fd → Sm Rs
  | [], acc, e => some (.ok (.tr (.sq false acc)) e)
  | d :: ds, acc, e => match f d e with
    | none => none
    | some e1 => match tt e1 with
      | some (.ok true e2) => match te e2 with
        | some (.ok (.sh y) e3) => lcLO f tt te vs ds (acc ++ [.sh y]) (unE vs e3)
        | some (.ok (.ow y) e3) => lcLO f tt te vs ds (acc ++ [.ow y]) (unE vs e3)
        | _ => none
      | some (.ok false e2) => lcLO f tt te vs ds acc (unE vs e2)
      | _ => none
def fLcO (mi : Sm (List D)) (f : D → En → Option En) (tt : Sm Bool) (te : Sm Rs) (vs : List Nat) : Sm Rs := bnd mi fun ds e => if ds.length ≤ szl then lcLO f tt te vs ds [] (unE vs e) else none
section
variable {X : Cx} {κ : Kx} {W : WX}
theorem lcO_tr {wi : TI} {g : TG} {ttr : TT} {ter : TE} {vs : List Nat} {mi : Sm (List D)} {f : D → En → Option En} {tt : Sm Bool} {te : Sm Rs} {σ : L2.St} {H : Hp} {Q : VK}
    (hwi : ∀ σ H (P : It → Hp → Prop), tX κ W (RI κ) mi σ H P → wi σ H P) (hf : TgOff κ vs g f) (htt : ∀ σ H P, tX κ WF RT tt σ H P → ttr σ H P) (hte : ∀ σ H P, tX κ WF (RV κ) te σ H P → ter σ H P) (h : tX κ W (RV κ) (fLcO mi f tt te vs) σ H Q) : tLc wi g ttr ter vs σ H Q := by
  obtain ⟨G, env, r, q⟩ := h
  refine hwi _ _ _ (bind_post r q fun ds e1 J H1 G1 em r1 rv s1 f1 q1 => ?_)
  obtain ⟨pr, hpr, yl⟩ := rv
  have hsz : ds.length ≤ szl := by
    by_cases hsz : ds.length ≤ szl
    · exact hsz
    · rw [if_neg hsz] at q1; exact q1.elim
  rw [if_pos hsz] at q1
  intro D hD
  have ow : Off vs σ (wipe σ vs) := off_wipe
  have lw : (wipe σ vs).length = σ.length := wipe_length σ vs
  let Inv0 : Nat → Hp → Prop := fun i H' => i ≤ ds.length ∧ ∃ G' env' acc xs F, Rep κ H' G' (wipe σ vs) env' ∧ UnAt vs env' ∧ Fr H1 G1 σ e1 H' G' (wipe σ vs) env' ∧ DO κ H' G' env' (Nw H1 G1 e1) D F acc xs ∧ acc.length ≤ i ∧ Grw H1 H' ∧ EPost κ W (RV κ) σ H1 G1 e1 (lcLO f tt te vs (ds.drop i) acc env') Q
  refine ⟨fun i m H' => m = ds.length - i ∧ Inv0 i H', ⟨ds.length, by simp, Nat.zero_le _, ?_⟩, ?_⟩
  · obtain ⟨st, rv⟩ := new_ow (xs := []) (l := []) r1 hD .nil
    obtain ⟨a0, xs0, e0, d1, d2, d3, d4, _⟩ := rv
    cases e0
    have u := unE_at (env := e1) vs
    have fu : Fr (upd H1 D (.lst [])) G1 σ e1 (upd H1 D (.lst [])) (unG vs G1) (wipe σ vs) (unE vs e1) := (Fr.unE vs).offR u ow
    have ru := (st.rep.unE vs).off u ow lw
    exact ⟨unG vs G1, unE vs e1, [], [], [], ru, u, st.fr.trans fu, ⟨upd_same, by rw [unG_g]; exact d2, d4.keep st.rep ru fu upd_same d2, .nil, (fun z => nomatch z), fun a z => nomatch z⟩, Nat.le_refl _, st.same, q1⟩
  rintro i m H2 ⟨rfl, hi2, G2, env2, acc, xs, F, r2, u2, fr2, da, al, sm, q2⟩
  have y := yl H2 G2 (fun a o pa e n => fr2.at e (hpr a pa)) fr2.gk r2.sub i
  by_cases hlt : i < ds.length
  · right
    have ed : ds[i]? = some ds[i] := List.getElem?_eq_getElem hlt
    have dr : ds.drop i = ds[i] :: ds.drop (i + 1) := (List.drop_eq_getElem_cons hlt)
    obtain ⟨go, yy⟩ := y.1 _ ed
    refine ⟨go, Inv0 (i + 1), fun H' h => ⟨ds.length - (i + 1), by omega, rfl, h⟩, fun x H3 hy => ?_⟩
    rw [dr] at q2
    dsimp only [lcLO] at q2
    cases z : f ds[i] env2 with
    | none => rw [z] at q2; exact q2.elim
    | some e3 =>
      rw [z] at q2
      dsimp only at q2
      have item : ∃ G3 : Gh, Rep κ H3 G3 (wipe σ vs) env2 ∧ Fr H2 G2 (wipe σ vs) env2 H3 G3 (wipe σ vs) env2 ∧ Rp κ G3 x ds[i] ∧ Grw H2 H3 := by
        rcases yy x H3 hy with ⟨rfl, rx⟩ | ⟨T, ts, es, hT, rfl, rfl, e4, rx⟩
        · exact ⟨G2, r2, Fr.refl, rx, Grw.refl _⟩
        · have st := new_sh (o := .tup ts) r2 hT
          refine ⟨G2.up T (.tup ts), st.rep, st.fr, ?_, st.same⟩
          rw [e4]
          exact .tup upd_same (rx.mono (same_new (r2.sub.none hT)))
      obtain ⟨G3, r3, fr3, rx, s3⟩ := item
      refine hf x ds[i] (wipe σ vs) H3 G3 env2 e3 _ z r3 rx fun σ4 G4 r4 fr4 off4 len4 => ?_
      have off : Off vs σ σ4 := fun j n => (ow j n).trans (off4 j n)
      have len : σ4.length = σ.length := len4.trans lw
      refine ⟨wipe_eq off len, htt _ _ _ ⟨G4, e3, r4, ?_⟩⟩
      have da3 := (da.keep r2 r3 s3 fr3).keep r3 r4 (Grw.refl _) fr4
      have frA := (fr2.trans fr3).trans fr4
      have smA := sm.trans s3
      cases w : tt e3 with
      | none => rw [w] at q2; exact q2
      | some o => cases o with
        | ex x5 e5 => rw [w] at q2; exact q2.elim
        | ok b e5 =>
          rw [w] at q2
          intro b' H5 G5 r5 rb s5 fr5
          cases rb
          have da5 := da3.keep r4 r5 s5 fr5
          have frB := frA.trans fr5
          have back : ∀ {e : En}, Off vs σ4 (wipe σ vs) := fun {e} j n => (off j n).symm.trans (ow j n)
          cases b with
          | false =>
            rw [if_neg (by decide)]
            have u := unE_at (env := e5) vs
            have fu : Fr H5 G5 σ4 e5 H5 (unG vs G5) (wipe σ vs) (unE vs e5) := (Fr.unE vs).offR u (back (e := e5))
            have ru := (r5.unE vs).off u (back (e := e5)) (lw.trans len.symm)
            exact ⟨hlt, unG vs G5, unE vs e5, acc, xs, F, ru, u, frB.trans fu, da5.keep r5 ru (Grw.refl _) fu, by omega, smA.trans s5, q2⟩
          | true =>
            rw [if_pos rfl]
            dsimp only at q2
            refine hte _ _ _ ⟨G5, e5, r5, ?_⟩
            cases w6 : te e5 with
            | none => rw [w6] at q2; exact q2
            | some o6 => cases o6 with
              | ex x6 e6 => rw [w6] at q2; exact q2.elim
              | ok yd e6 =>
                rw [w6] at q2
                intro v H6 G6 r6 rv6 s6 fr6
                have da6 := da5.keep r5 r6 s6 fr6
                have u := unE_at (env := e6) vs
                have fu : Fr H6 G6 σ4 e6 H6 (unG vs G6) (wipe σ vs) (unE vs e6) := (Fr.unE vs).offR u (back (e := e6))
                have ru := (r6.unE vs).off u (back (e := e6)) (lw.trans len.symm)
                have da7 := da6.keep r6 ru (Grw.refl _) fu
                have hxs : xs.length = acc.length := da.r.len
                have fin : ∀ (z : Fd) (F' : List Addr), RFs κ (upd H6 D (.lst (xs ++ [v]))) (unG vs G6) (xs ++ [v]) (acc ++ [z]) F' → (∀ a, a ∈ F' → a ≠ D ∧ Fre (unG vs G6) (unE vs e6) a ∧ Nw H1 G1 e1 a) → EPost κ W (RV κ) σ H1 G1 e1 (lcLO f tt te vs (ds.drop (i + 1)) (acc ++ [z]) (unE vs e6)) Q → Inv0 (i + 1) (upd H6 D (.lst (xs ++ [v]))) := fun z F' rf hF q3 => by
                  refine ⟨hlt, unG vs G6, unE vs e6, acc ++ [z], xs ++ [v], F', rep_updO ru da7.h da7.g da7.f, u, ((frB.trans fr6).trans fu).updD hD, ⟨upd_same, da7.g, da7.f, rf, fun m => (hF D m).1 rfl, fun a m => (hF a m).2⟩, ?_, ?_, q3⟩
                  · rw [List.length_append, List.length_singleton]; omega
                  · intro a o e
                    rw [upd_ne (ne_of_none e hD)]
                    exact ((smA.trans s5).trans s6) a o e
                have gF : ∀ a o, a ∈ F → H6 a = some o → upd H6 D (.lst (xs ++ [v])) a = some o := fun a o m e => by
                  rw [upd_ne (fun (z : a = D) => da7.n (by rw [← z]; exact m))]
                  exact e
                have rF := da7.r.grow (Same.refl _) gF fun a m => (da7.r.own m).2
                have oF : ∀ a, a ∈ F → a ≠ D ∧ Fre (unG vs G6) (unE vs e6) a ∧ Nw H1 G1 e1 a := fun a m => ⟨fun (z : a = D) => da7.n (by rw [← z]; exact m), da7.o a m⟩
                refine ⟨xs, da6.h, szl_lt (by omega), ?_⟩
                cases yd with
                | sh d0 => exact fin (.sh d0) F (rF.addS (by rw [unG_g]; exact rv6)) oF q2
                | tr o0 => exact q2.elim
                | ow l0 =>
                  obtain ⟨b, ys, rfl, hb, gb, rl, fb, nb⟩ := rv6
                  have bD : b ≠ D := fun z => da5.f.mt (by
                    have := nb _ (show H5 b = _ by rw [z]; exact da5.h)
                    rw [z] at this
                    exact this)
                  have bF : b ∉ F := fun m => by
                    obtain ⟨⟨o, ho⟩, _⟩ := da5.r.own m
                    exact (da5.o b m).1.mt (nb o ho)
                  obtain ⟨F', r7, hF'⟩ := RFs.addL (b := b) (xs := ys) (l := l0) (by rw [upd_ne bD]; exact hb) (by rw [unG_g]; exact gb) (by rw [unG_g]; exact rl) bF rF
                  refine fin (.ow l0) F' r7 (fun a m => ?_) q2
                  rcases hF' a m with m | rfl
                  · exact oF a m
                  · exact ⟨bD, fb.keep r6 ru fu hb gb, nb.shift frB⟩
  · left
    have e : i = ds.length := by omega
    subst e
    refine ⟨y.2 (Nat.le_refl _), ?_⟩
    rw [List.drop_length] at q2
    have ob : Off vs (wipe σ vs) σ := ow.symm
    refine q2 (.ref D) H2 G2 (r2.off u2 ob lw.symm) ⟨D :: F, .sq (t := false) da.h da.g da.r da.n, fun a m => ?_⟩ sm (fr2.offR u2 ob)
    rcases List.mem_cons.mp m with rfl | m
    · exact ⟨da.f, fun o h => by rw [hD] at h; cases h⟩
    · exact da.o a m
variable {elt tg iter : Expr} {ifs : List Expr} {scope : Scope} {own : List (Str × Nat)} {pos spos py : Pos} {g : TG} {mi : Sm (List D)} {f : D → En → Option En} {tt : Sm Bool} {te : Sm Rs} {vs : List Nat}
theorem v_lcO (hc : X.calm = true) (hN : X.N.Nodup) (hv : vs = own.map (·.2)) (hi : PI X tg iter (tX κ W (RI κ) mi)) (ok : BlkOk X.N X.env.scope scope own)
    (hg : ∀ (s : Shared) (H : Hp) (C : Addr) (cl : List (Str × Addr)) (fp : List Addr), PG (X.blk s H scope (compEnvC scope cl C X.env) fp) tg g) (hf : TgOff κ vs g f) (ht : ∀ (s : Shared) (H : Hp) (C : Addr) (cl : List (Str × Addr)) (fp : List Addr), PTs (X.blk s H scope (compEnvC scope cl C X.env) fp) ifs (tX κ WF RT tt))
    (he : ∀ (s : Shared) (H : Hp) (C : Addr) (cl : List (Str × Addr)) (fp : List Addr), PE (X.blk s H scope (compEnvC scope cl C X.env) fp) elt (tX κ WF (RV κ) te)) (hs : ∀ x, foldedSetIterable iter X.env x = pure x := by intro _; rfl) :
    PE X (.ListComp elt [⟨tg, iter, ifs, 0⟩] scope pos) (tX κ W (RV κ) (fLcO mi f tt te vs)) := by
  subst hv
  exact PE.imp (pe_lc hc hN hi ok hg ht he hs) fun σ H Q h => lcO_tr (fun _ _ _ h => h) hf (fun _ _ _ h => h) (fun _ _ _ h => h) h
end
/-! ### d.setdefault(k, v); list(d) -/
section
variable {X : Cx} {κ : Kx} {W : WX} {e a : Expr} {m mk : Sm D} {pos pos' apos : Pos}
/-- list(d) -/
def fDKeys (i : Nat) : Sm Rs := fun env => match env[i]? with
  | some (.tr (.dc l)) => some (.ok (.ow (l.map Prod.fst)) env)
  | _ => none
end
end Vs


set_option Elab.async false
set_option linter.all false
set_option maxRecDepth 100000
set_option maxHeartbeats 2000000
/-! Vq: [(k, d[k]) for k in d] of an own dict. -/
namespace Vs
open PySem PySem.Spec PyProof.Rows L2
def DIv (H0 : Hp) (D : Addr) (kvs : List (Key × V)) (k : Nat) (H' : Hp) (Ts : List Addr) : Prop :=
  Ts.length = k ∧ H' D = some (.lst (Ts.map V.ref)) ∧ (∀ a o, H0 a = some o → H' a = some o) ∧ ∀ (n : Nat) (T : Addr), Ts[n]? = some T → ∃ key v w, kvs[n]? = some (key, v) ∧ valV kvs key = some w ∧ H' T = some (.tup [kV key, w]) ∧ H0 T = none ∧ T ≠ D
def fDItems (i j : Nat) : Sm Rs := fun env => match env[i]? with
  | some (.tr (.dc l)) => if i ≠ j ∧ j < env.length ∧ l.length < szl then some (.ok (.ow (l.map fun p => D.tup [p.1, (dcG p.1 l).getD .non])) env) else none
  | _ => none
section
variable {X : Cx} {κ : Kx} {W : WX} {tg e : Expr} {scope : Scope} {own : List (Str × Nat)} {pos p1 p2 p3 p4 p5 p7 : Pos} {x v : Str} {kk : Nat} {i j : Nat}
end
end Vs


set_option Elab.async false
set_option linter.all false
set_option maxRecDepth 100000
set_option maxHeartbeats 2000000
/-! Vr: sorted(xs) of data without key; own lists put into an own list; a loop that only looks at an own list's items. -/
namespace Vs
open PySem PySem.Spec PyProof.Rows L2
/-! ### sorted(xs), data -/
def rSortDt (K : PySem.W.Frag) : List V → Hp → VK → Prop := fun vs H Q => ∃ (a : Addr) (xs : List V) (kz : List PyData), vs = [V.ref a] ∧ SqL K H a xs ∧ DpAll K H xs kz ∧ kz.length = xs.length ∧ PySem.W.AllAlike kz ∧ PySem.W.Sortable kz ∧ (∀ d, d ∈ kz → d.depth ≤ 64) ∧
  ∀ p, H p = none → Q (.ref p) (upd H p (.lst ((sortP (xs.zip kz)).map Prod.fst)))
noncomputable def opSortT : List D → Option Rs
  | [.lst l] => match opSort some l with
    | some r => some (.ow r)
    | none => none
  | _ => none
/-! ### > over data -/
def rGtD (K : PySem.W.Frag) : R2 := fun x y H Q => ∃ d e, Dp K H x d ∧ Dp K H y e ∧ PySem.W.alike d e = true ∧ d ≠ .none ∧ d.depth ≤ 64 ∧ Q (.bl (PySem.W.dataLt e d)) H
def dGt (x y : D) : Option Bool := if x.pl = true ∧ y.pl = true ∧ PySem.W.alike x.toP y.toP = true ∧ x.toP.depth ≤ 64 then some (PySem.W.dataLt y.toP x.toP) else none
def cGtA : D → D → Option Bool
  | .int i, .int j => some (decide (j < i))
  | .str a, .str b => some (decide (b < a))
  | .lst a, .lst b => dGt (.lst a) (.lst b)
  | .tup a, .tup b => dGt (.tup a) (.tup b)
  | _, _ => none
def rGtA (κ : Kx) : R2 := fun x y H Q => rCm (fun i j => decide (j < i)) (fun a b => decide (b < a)) x y H Q ∨ rGtD κ.K x y H Q
/-! ### own lists put into an own list -/
def putL {α : Type} (xs : List α) (k : Nat) (v : α) : List α := if k < xs.length then xs.set k v else xs ++ [v]
section
variable {κ : Kx} {σ σ0 : L2.St} {H H1 H2 : Hp} {G G1 G2 : Gh} {env e1 e2 : En}
theorem sq_put (r1 : Rep κ H1 G1 σ e1) (f1 : Fr H G σ0 env H1 G1 σ e1) {i k : Nat} {fs : List Fd} {y : Fd} {v : V} {z : Rs} (h : sqAt e1 i = some (false, fs)) (hz : z.fd = some y) (rv : RV κ σ (Nw H G env) H1 G1 e1 v z) :
    ∃ a xs, σ[i]? = some (some (.ref a)) ∧ H1 a = some (.lst xs) ∧ xs.length = fs.length ∧ ∃ G', Rep κ (upd H1 a (.lst (putL xs k v))) G' σ (e1.set i (.tr (.sq false (setF fs k y)))) ∧ Fr H G σ0 env (upd H1 a (.lst (putL xs k v))) G' σ (e1.set i (.tr (.sq false (setF fs k y)))) := by
  obtain ⟨es, a, xs, F', h4, h5, h6, h7, h9, h10⟩ := sq_at r1 h
  have ln : xs.length = fs.length := h9.len
  have hk' : ∀ b u, b ≠ a → H1 b = some u → upd H1 a (.lst (putL xs k v)) b = some u := fun b u nb hu => by rw [upd_ne nb]; exact hu
  have carry : ∀ {vs : List V} {fs : List Fd} {F : List Addr}, a ∉ F → RFs κ H1 G1 vs fs F → RFs κ (upd H1 a (.lst (putL xs k v))) G1 vs fs F := fun {vs fs F} na t => t.grow (Same.refl _) (fun b u m hu => hk' b u (fun z => na (z ▸ m)) hu) fun b m => (t.own m).2
  have fields : ∃ F2, RFs κ (upd H1 a (.lst (putL xs k v))) G1 (putL xs k v) (setF fs k y) F2 ∧ a ∉ F2 ∧ ∀ b, b ∈ F2 → b ∈ F' ∨ (Fre G1 e1 b ∧ Nw H G env b) := by
    cases z with
    | sh d =>
      cases hz
      unfold setF
      by_cases hlt : k < fs.length
      · rw [if_pos hlt, show putL xs k v = xs.set k v from if_pos (by omega)]
        obtain ⟨F2, q1, q2⟩ := RFs.setS (κ := κ) (H := H1) (G := G1) (v := v) (d := d) rv k h9
        have c := carry (fun m => h10 (q2 _ m)) q1
        rw [show putL xs k v = xs.set k v from if_pos (by omega)] at c
        exact ⟨F2, c, fun m => h10 (q2 _ m), fun b m => .inl (q2 b m)⟩
      · rw [if_neg hlt, show putL xs k v = xs ++ [v] from if_neg (by omega)]
        have c := carry h10 (RFs.addS (κ := κ) (H := H1) (G := G1) (v := v) (d := d) rv h9)
        rw [show putL xs k v = xs ++ [v] from if_neg (by omega)] at c
        exact ⟨F', c, h10, fun b m => .inl m⟩
    | ow l =>
      cases hz
      obtain ⟨b, zs, rfl, b2, b3, b4, b5, b6⟩ := rv
      have nb : b ∉ F' := fun m => b5 i _ es (by rw [h5]; exact List.mem_cons_of_mem _ m)
      have nba : b ≠ a := fun m => b5 i _ es (by rw [h5, m]; exact List.mem_cons_self)
      unfold setF
      by_cases hlt : k < fs.length
      · rw [if_pos hlt, show putL xs k (.ref b) = xs.set k (.ref b) from if_pos (by omega)]
        obtain ⟨F2, q1, q2⟩ := RFs.setL (κ := κ) (H := H1) (G := G1) b2 b3 b4 k nb hlt h9
        have na : a ∉ F2 := fun m => by
          rcases q2 _ m with m | e
          · exact h10 m
          · exact nba e.symm
        have c := carry na q1
        rw [show putL xs k (.ref b) = xs.set k (.ref b) from if_pos (by omega)] at c
        exact ⟨F2, c, na, fun c m => by
          rcases q2 c m with m | e
          · exact .inl m
          · rw [e]; exact .inr ⟨b5, b6⟩⟩
      · rw [if_neg hlt, show putL xs k (.ref b) = xs ++ [.ref b] from if_neg (by omega)]
        obtain ⟨F2, q1, q2⟩ := RFs.addL (κ := κ) (H := H1) (G := G1) b2 b3 b4 nb h9
        have na : a ∉ F2 := fun m => by
          rcases q2 _ m with m | e
          · exact h10 m
          · exact nba e.symm
        have c := carry na q1
        rw [show putL xs k (.ref b) = xs ++ [.ref b] from if_neg (by omega)] at c
        exact ⟨F2, c, na, fun c m => by
          rcases q2 c m with m | e
          · exact .inl m
          · rw [e]; exact .inr ⟨b5, b6⟩⟩
    | tr o => cases hz
  obtain ⟨F2, t1, t2, t3⟩ := fields
  have ro : RO κ (upd H1 a (.lst (putL xs k v))) G1 (.ref a) (.sq false (setF fs k y)) (a :: F2) := .sq (t := false) upd_same h7 t1 t2
  exact ⟨a, xs, h4, h6, ln, chg_all r1 f1 (s' := .tr (.sq false (setF fs k y))) es rfl rfl rfl (fun z => by cases z) rfl h4 ro (fun b u hu m => hk' b u (fun w => m (by rw [h5, w]; exact List.mem_cons_self)) hu) fun b m => by
    rcases List.mem_cons.mp m with e | m
    · rw [e, h5]; exact .inl List.mem_cons_self
    · rcases t3 b m with m | q
      · rw [h5]; exact .inl (List.mem_cons_of_mem _ m)
      · exact .inr q⟩
end
/-- x.append(e), x an own list that may hold own lists -/
def sAppQ (i : Nat) (m : Sm Rs) : Ss := fun e0 => match sqAt e0 i with
  | some (false, _) => sbnd m (fun r e => match sqAt e i, r.fd with
    | some (false, fs), some f => if fs.length < szl then some (.nx (e.set i (.tr (.sq false (setF fs fs.length f))))) else none
    | _, _ => none) e0
  | _ => none
/-- x[j] = e -/
def sSetQ (i : Nat) (mj : Sm D) (m : Sm Rs) : Ss := sbnd m fun r e0 => match sqAt e0 i, r.fd with
  | some (false, _), some f => sbnd mj (fun j e => match j, sqAt e i with
    | .int z, some (false, fs) => match ixN fs.length z with
      | some k => some (.nx (e.set i (.tr (.sq false (setF fs k f)))))
      | none => none
    | _, _ => none) e0
  | _, _ => none
section
variable {X : Cx} {κ : Kx} {W : WX} {e : Expr} {m : Sm Rs} {mj : Sm D} {pos pos' p2 : Pos}
theorem s_appQ {x : Str} {i : Nat} {apos cpos : Pos} (hK : X.K = κ.K) (hx : PE X (.Name x pos') (tVar i)) (he : PE X e (tI κ W (RV κ) m))
    (hs : swapsWith (.Call (.Attribute (.Name x pos') "append" apos) [e] [] cpos) none pos.line X.env = pure false := by rfl)
    (hbase : attributeBase (.Name x pos') "append" X.env (eval (.Name x pos') X.env) = eval (.Name x pos') X.env := by rfl)
    (hfew : ((backTo cpos (starEach [e] X.env)).all (fun x => !x.1) && (backToKw cpos (keywordEach [] X.env)).all (fun x => x.1.isSome)
      && decide (([e] : List Expr).length + ([] : List Keyword).length + (if ([] : List Keyword).isEmpty then 0 else 1) < 30)) = true := by rfl)
    (hline : (apos.endLine == cpos.line) = true := by rfl) (hst : starEach [e] X.env = (false, eval e X.env) :: starEach [] X.env := by rfl) (hplain : (backTo cpos (starEach [] X.env)).any (·.1) = false := by rfl) :
    PS X (.Expr (.Call (.Attribute (.Name x pos') "append" apos) [e] [] cpos) pos) (tS κ W (sAppQ i m)) :=
  PS.imp (ps_expr (pe_bm PySem.F.plainAttrs_list PySem.F.slot_list_append PySem.F.type_list_append mt_append hx (pa_cons he pa_nil hst) hbase hfew hline hst hplain) hs) fun D σ H ⟨G, env, r, q⟩ => by
    rw [hK]
    unfold sAppQ at q
    cases w0 : sqAt env i with
    | none => rw [w0] at q; exact q.elim
    | some tf =>
      obtain ⟨t, fs0⟩ := tf
      rw [w0] at q
      cases t with
      | true => exact q.elim
      | false =>
        dsimp only at q
        obtain ⟨_, a, xs, F, h1, h2, h3, _⟩ := sq_at r w0
        refine ⟨_, h1, .inl ⟨rfl, xs, SqL.of h3⟩, ?_⟩
        refine ⟨G, env, r, ?_⟩
        unfold sbnd at q
        cases em : m env with
        | none => rw [em] at q; exact q
        | some o => cases o with
          | ex x e1 =>
            rw [em] at q
            exact fun c d H' G' a b g => q c d σ H' G' a b g
          | ok z e1 =>
            rw [em] at q
            intro v H1 G1 r1 rv f1
            dsimp only at q
            cases w1 : sqAt e1 i with
            | none => rw [w1] at q; exact q.elim
            | some tf1 =>
              obtain ⟨t1, fs⟩ := tf1
              rw [w1] at q
              cases t1 with
              | true => exact q.elim
              | false =>
                cases hz : z.fd with
                | none => rw [hz] at q; exact q.elim
                | some y =>
                  rw [hz] at q
                  dsimp only at q
                  by_cases hsz : fs.length < szl
                  · rw [if_pos hsz] at q
                    obtain ⟨b, ys, g1, g2, g3, G2, r2, f2⟩ := sq_put (k := fs.length) r1 f1 w1 hz rv
                    rw [h1] at g1
                    cases g1
                    rw [show putL ys fs.length v = ys ++ [v] from if_neg (by omega)] at r2 f2
                    exact ⟨a, ys, v, rfl, rfl, g2, by rw [g3]; exact szl_lt (Nat.le_of_lt hsz), q σ _ G2 r2 f2⟩
                  · rw [if_neg hsz] at q; exact q.elim
end
/-! ### a loop that only looks at an own list's items -/
/-- for x in xs: if t: return d -/
def forTL (i j : Nat) (mt : Sm Bool) (d w : D) : List Fd → Ss
  | [], e => some (.nx e)
  | f :: fs, e => match mt ((e.set i (.sh w)).set j (.sh f.d)) with
    | some (.ok true _) => some (.rt (.sh d))
    | some (.ok false _) => forTL i j mt d w fs e
    | _ => none
def sForT (i j : Nat) (mt : Sm Bool) (d : D) : Ss := fun e => match sqAt e i, e[j]? with
  | some (false, fs), some .un => forTL i j mt d (.lst (fs.map Fd.d)) fs e
  | _, _ => none
section
variable {X : Cx} {κ : Kx} {W : WX} {e : Expr} {mt : Sm Bool} {pos pos' p2 p3 rp ip : Pos}
end
/-! ### x = [e for ..], e own lists -/
section
variable {X : Cx} {κ : Kx} {W : WX} {elt tg iter : Expr} {ifs : List Expr} {scope : Scope} {own : List (Str × Nat)} {pos spos py : Pos} {g : TG} {mi : Sm (List D)} {f : D → En → Option En} {tt : Sm Bool} {te : Sm Rs} {vs : List Nat}
theorem s_lcmO {i : Nat} {y : Str} {m : Sm Rs} (hm : ∀ σ H Q, tX κ W (RV κ) m σ H Q → tX κ W (RV κ) (fLcO mi f tt te vs) σ H Q) (hc : X.calm = true) (hN : X.N.Nodup) (hv : vs = own.map (·.2)) (hy : X.N[i]? = some y) (hyl : X.env.scope.names.lookup y = some .local) (hsw : swapsWith (.ListComp elt [⟨tg, iter, ifs, 0⟩] scope pos) (some (.Name y py)) spos.line X.env = pure true) (hi : PI X tg iter (tX κ W (RI κ) mi)) (ok : BlkOk X.N X.env.scope scope own)
    (hg : ∀ (s : Shared) (H : Hp) (C : Addr) (cl : List (Str × Addr)) (fp : List Addr), PG (X.blk s H scope (compEnvC scope cl C X.env) fp) tg g) (hf : TgOff κ vs g f) (ht : ∀ (s : Shared) (H : Hp) (C : Addr) (cl : List (Str × Addr)) (fp : List Addr), PTs (X.blk s H scope (compEnvC scope cl C X.env) fp) ifs (tX κ WF RT tt))
    (he : ∀ (s : Shared) (H : Hp) (C : Addr) (cl : List (Str × Addr)) (fp : List Addr), PE (X.blk s H scope (compEnvC scope cl C X.env) fp) elt (tX κ WF (RV κ) te)) (hs : ∀ x, foldedSetIterable iter X.env x = pure x := by intro _; rfl) :
    PS X (.Assign [.Name y py] (.ListComp elt [⟨tg, iter, ifs, 0⟩] scope pos) spos) (tS κ W (sAsg i m)) := by
  subst hv
  refine PS.imp (ps_setLc hc hN hy hyl hsw hi ok hg ht he hs) fun D σ H ⟨G, env, r, q⟩ => ?_
  refine lcO_tr (W := W) (fun _ _ _ h => h) hf (fun _ _ _ h => h) (fun _ _ _ h => h) (hm _ _ _ ⟨G, env, r, ?_⟩)
  unfold sAsg sbnd at q
  cases w : m env with
  | none => rw [w] at q; exact q
  | some o => cases o with
    | ex x e1 =>
      rw [w] at q
      exact fun c d H' G' a b _ g => q c d σ H' G' a b g
    | ok z e1 =>
      rw [w] at q
      intro v H1 G1 r1 rv s1 f1
      by_cases hl : i < e1.length
      · dsimp only at q
        rw [if_pos hl] at q
        obtain ⟨G2, r2, f2⟩ := put_all r1 hl rv f1
        exact q _ H1 G2 r2 f2
      · dsimp only at q
        rw [if_neg hl] at q; exact q.elim
theorem s_lcLO {i j : Nat} {y : Str} : type_of% (@s_lcmO X κ W elt tg iter ifs scope own pos spos py g mi f tt te vs i y (xLock j (fLcO mi f tt te vs)) fun _ _ _ h => lock_tr h) := @s_lcmO X κ W elt tg iter ifs scope own pos spos py g mi f tt te vs i y (xLock j (fLcO mi f tt te vs)) fun _ _ _ h => lock_tr h
end
/-! ### values of expressions that change something -/
section
variable {X : Cx} {κ : Kx} {W : WX} {a b o e : Expr} {rest : List Expr} {ma mb mo me : Sm D} {pos apos : Pos}
end
end Vs


set_option Elab.async false
set_option linter.all false
set_option maxRecDepth 100000
set_option maxHeartbeats 2000000
/-! Vt: len(set(text)), letters that repeat. -/
namespace Vs
open PySem PySem.Spec PyProof.Rows L2
def ddS (acc : List Nat) (c : Nat) : List Nat := if c ∈ acc then acc else acc ++ [c]
/-- a text's letters, each once -/
def dd (l : List Nat) : List Nat := l.foldl ddS []
def one (c : Nat) : Str := ⟨#[c]⟩
section
variable {prog : Program} {w : World} {A : Around} {R : Result → Shared → Prop} {I : Addr} {fp wr : List Addr} {G : Array GenState → Array GenState → Prop} {n : Nat} {St : Nat → Shared → Prop}
end
section
variable {prog : Program} {w : World} {A : Around} {E : Value → Shared → Prop} {s : Shared}
end
/-- len(set(x)), x a text -/
def tLenTxt (ta : TE) : TE := fun σ H Q => ta σ H fun x H1 => ∃ w : Str, x = .str w ∧ w.cps.size ≤ 20 ∧ Q (.int (dd w.cps.toList).length) H1
section
variable {X : Cx}
end
/-- its function -/
def fLenS (m : Sm D) : Sm D := bnd m fun d e => match d with
  | .str w => if w.length ≤ 20 then some (.ok (.int ((dd w).length : Nat)) e) else none
  | _ => none
/-- a statement that is never reached: nothing is claimed of it -/
def sStuck : Ss := fun _ => none
end Vs


set_option Elab.async false
set_option linter.all false
set_option maxRecDepth 100000
set_option maxHeartbeats 2000000
/-! Vu: enumerate(text). -/
namespace Vs
open PySem PySem.Spec PyProof.Rows L2
/-- number and letter, each in a new pair -/
def IteS (x : Str) : It :=
  ⟨fun i _ => i < x.cps.size, fun i H v H' => ∃ T c, v = .ref T ∧ H T = none ∧ H' = upd H T (.tup [.int (i : Nat), .str ⟨#[c]⟩]) ∧ x.cps[i]? = some c, fun i _ => x.cps.size ≤ i⟩
def iEnumS (ta : TA) : TI := fun σ H R => ta σ H fun vs H1 => ∃ x, vs = [.str x] ∧ R (IteS x) H1
section
variable {X : Cx} {κ : Kx} {W : WX} {a : Expr} {p pos : Pos}
/-- enumerate(text) -/
def fEnS (m : Sm (List D)) : Sm (List D) := bnd m fun ds e => match ds with
  | [.str w] => some (.ok (enumL (w.map fun c => .str [c])) e)
  | _ => none
end
end Vs


set_option Elab.async false
set_option linter.all false
set_option maxRecDepth 100000
set_option maxHeartbeats 2000000
/-! Vw: max(list, default=d). -/
namespace Vs0
open PySem
section
variable {prog : Program} {w : World} {A : Around} {R : Result → Shared → Prop} {I : Addr} {fp wr : List Addr} {n : Nat} {P : Nat → Value → Prop} {St : Nat → Heap → Prop}
end
section
variable {prog : Program} {w : World} {A : Around} {E : Value → Shared → Prop} {s : Shared}
end
end Vs0
namespace Vs
open PySem PySem.Spec PyProof.Rows L2
def rMaxDf (K : PySem.W.Frag) : List V → List V → Hp → VK → Prop := fun vs zs H Q => ∃ (a : Addr) (ns : List Int) (d : Int), vs = [V.ref a] ∧ zs = [V.int d] ∧ SqL K H a (ns.map V.int) ∧ ∀ m, ((ns = [] ∧ m = d) ∨ (m ∈ ns ∧ ∀ y, y ∈ ns → y ≤ m)) → Q (.int m) H
def fMaxD (me md : Sm D) : Sm Rs := bnd me fun d => bnd md fun z e => match d, z with
  | .lst l, .int z => match allInts l with
    | some ns => some (.ok (.sh (.int ((maxL ns).getD z))) e)
    | none => none
  | _, _ => none
section
variable {X : Cx} {κ : Kx} {W : WX} {e o : Expr} {me mo : Sm D} {p pos kpos : Pos}
end
end Vs


set_option Elab.async false
set_option linter.all false
set_option maxRecDepth 100000
set_option maxHeartbeats 2000000
/-! Vy: an own list of own lists of numbers, handed to a call that only reads it: its rows are locked for that time, so the answer can't hold one of them. -/
namespace Vs
open PySem PySem.Spec PyProof.Rows L2
mutual
/-- no told list, no error in it -/
def D.nos : D → Bool
  | .scr _ => false
  | .xn _ _ => false
  | .lst l => nosA l
  | .tup l => nosA l
  | .ob _ l => nosA l
  | _ => true
def nosA : List D → Bool
  | [] => true
  | d :: l => d.nos && nosA l
end
def rowI : List Fd → Option (List (List Int))
  | [] => some []
  | .ow l :: fs => match allInts l, rowI fs with
    | some ns, some r => some (ns :: r)
    | _, _ => none
  | .sh _ :: _ => none
open Classical in
/-- the expression reads slot i's own list of own lists; its value holds nothing of it -/
noncomputable def xLockQ (i : Nat) (m : Sm Rs) : Sm Rs := fun e => match sqAt e i with
  | some (false, fs) => match rowI fs with
    | some rows => match m (e.set i (.sh (.lst (rows.map .scr)))) with
      | some (.ok (.sh d) e1) => if rows ≠ [] ∧ d.nos = true ∧ e1 = e.set i (.sh (.lst (rows.map .scr))) then some (.ok (.sh d) e) else none
      | _ => none
    | none => none
  | _ => m e
theorem lockQ_ev {i : Nat} {m : Sm Rs} {e : En} {fs : List Fd} {rows : List (List Int)} {d : D} (h1 : sqAt e i = some (false, fs)) (h2 : rowI fs = some rows) (h3 : rows ≠ []) (h4 : m (e.set i (.sh (.lst (rows.map .scr)))) = some (.ok (.sh d) (e.set i (.sh (.lst (rows.map .scr)))))) (h5 : d.nos = true) : xLockQ i m e = some (.ok (.sh d) e) := by
  unfold xLockQ
  rw [h1]
  dsimp only
  rw [h2]
  dsimp only
  rw [h4]
  dsimp only
  rw [if_pos ⟨h3, h5, rfl⟩]
/-! ### several things locked -/
def tLockL (F : List Addr) (t : TE) : TE := fun σ H Q => F.Nodup ∧ (∀ a, a ∈ F → ∃ u, H a = some u ∧ Mut (some u)) ∧ ∀ H1 : Hp, (∀ a, a ∉ F → H1 a = H a) → (∀ a, a ∈ F → ∃ od u, H a = some u ∧ H1 a = some (.frz od u)) → t σ H1 fun v H' => (∀ a, a ∈ F → H' a = H1 a) ∧ Q v (frzG H H' F)
theorem pe_lockL {X : Cx} {e : Expr} {t : TE} (h : PE X e t) : ∀ F : List Addr, PE X e (tLockL F t)
  | [] => PE.imp h fun σ H Q ⟨_, _, q⟩ => by
    have q := q H (fun _ _ => rfl) fun _ m => nomatch m
    have e : (fun (v : V) (H' : Hp) => (∀ a, a ∈ ([] : List Addr) → H' a = H a) ∧ Q v (frzG H H' [])) = Q := by
      funext v H'
      have e1 : frzG H H' [] = H' := by
        funext a
        exact frz_out (fun m => nomatch m)
      rw [e1]
      exact propext ⟨fun z => z.2, fun z => ⟨(fun _ m => nomatch m), z⟩⟩
    rw [e] at q
    exact q
  | a :: F => PE.imp (pe_lock (pe_lockL h F)) fun σ H Q ⟨nd, mu, q⟩ => by
    obtain ⟨u, h1, h2⟩ := mu a List.mem_cons_self
    obtain ⟨na, nd⟩ := List.nodup_cons.mp nd
    refine ⟨a, u, h1, h2, fun od => ⟨nd, fun b m => ?_, fun H1 k1 k2 => ?_⟩⟩
    · have n : b ≠ a := fun z => na (z ▸ m)
      rw [upd_ne n]
      exact mu b (List.mem_cons_of_mem _ m)
    · have Ha : H1 a = some (.frz od u) := by rw [k1 a na, upd_same]
      have q := q H1 (fun b m => by
        have n : b ≠ a := fun z => m (z ▸ List.mem_cons_self)
        rw [k1 b (fun z => m (List.mem_cons_of_mem _ z)), upd_ne n]) (fun b m => by
        rcases List.mem_cons.mp m with rfl | m
        · exact ⟨od, u, h1, Ha⟩
        · obtain ⟨o', u', e1, e2⟩ := k2 b m
          rw [upd_ne (show b ≠ a from fun z => na (z ▸ m))] at e1
          exact ⟨o', u', e1, e2⟩)
      have e : (fun (v : V) (H' : Hp) => (∀ b, b ∈ a :: F → H' b = H1 b) ∧ Q v (frzG H H' (a :: F))) = fun v H' => (∀ b, b ∈ F → H' b = H1 b) ∧ frzG (upd H a (.frz od u)) H' F a = some (.frz od u) ∧ Q v (upd (frzG (upd H a (.frz od u)) H' F) a u) := by
        funext v H'
        have e1 : frzG (upd H a (.frz od u)) H' F a = H' a := frz_out na
        have e2 : upd (frzG (upd H a (.frz od u)) H' F) a u = frzG H H' (a :: F) := by
          funext b
          by_cases n : b = a
          · rw [n, upd_same, frz_in List.mem_cons_self, h1]
          · rw [upd_ne n]
            by_cases m : b ∈ F
            · rw [frz_in m, frz_in (List.mem_cons_of_mem _ m), upd_ne n]
            · rw [frz_out m, frz_out fun z => (List.mem_cons.mp z).elim n m]
        rw [e1, e2]
        refine propext ⟨fun ⟨z1, z2⟩ => ⟨fun b m => z1 b (List.mem_cons_of_mem _ m), (z1 a List.mem_cons_self).trans Ha, z2⟩, fun ⟨z1, z2, z3⟩ => ⟨fun b m => ?_, z3⟩⟩
        rcases List.mem_cons.mp m with rfl | m
        · rw [z2, Ha]
        · exact z1 b m
      rw [e] at q
      exact q
def tLockF (t : TE) : TE := fun σ H Q => t σ H Q ∨ ∃ F, tLockL F t σ H Q
theorem pe_lockF {X : Cx} {e : Expr} {t : TE} (h : PE X e t) : PE X e (tLockF t) := ⟨fun pins s σ H Q I hw => by
  rcases hw with hw | ⟨F, hw⟩
  · exact h.run pins s σ H Q I hw
  · exact (pe_lockL h F).run pins s σ H Q I hw⟩
/-! ### what the locked rows are -/
section
variable {κ : Kx} {H H' G G' : Hp}
theorem rpa_ints : ∀ {xs : List V} {ns : List Int}, RpA κ G xs (ns.map D.int) → xs = ns.map V.int
  | _, [], .nil => rfl
  | _, n :: ns, .cons (.int _) t => by rw [List.map_cons, rpa_ints t]
theorem rows_in : ∀ {vs : List V} {fs : List Fd} {F : List Addr} {rows : List (List Int)}, RFs κ H G vs fs F → rowI fs = some rows → vs = F.map V.ref ∧ F.Nodup ∧ (rows = [] → F = []) ∧ (∀ a, a ∈ F → ∃ xs, H a = some (.lst xs)) ∧ ∀ G2 : Hp, (∀ a, a ∈ F → ∃ od u, H a = some u ∧ G2 a = some (.frz od u)) → RpA κ G2 vs (rows.map .scr)
  | _, _, _, _, .nil, h => by cases h; exact ⟨rfl, List.nodup_nil, fun _ => rfl, (fun _ m => nomatch m), fun _ _ => .nil⟩
  | _, _, _, _, .sh _ _, h => by cases h
  | _, _, _, _, @RFs.ow _ _ _ a xs l vs fs F h1 h2 h3 h4 t, h => by
    unfold rowI at h
    cases q1 : allInts l with
    | none => rw [q1] at h; cases h
    | some ns =>
      cases q2 : rowI fs with
      | none => rw [q1, q2] at h; cases h
      | some r =>
        rw [q1, q2] at h
        cases h
        obtain ⟨k0, k1, _, k2, k3⟩ := rows_in t q2
        rw [allInts_of q1] at h3
        have ex := rpa_ints h3
        refine ⟨by rw [k0]; rfl, List.nodup_cons.mpr ⟨h4, k1⟩, (fun z => nomatch z), fun b m => ?_, fun G2 g => .cons ?_ (k3 G2 fun b m => g b (List.mem_cons_of_mem _ m))⟩
        · rcases List.mem_cons.mp m with rfl | m
          · exact ⟨_, h1⟩
          · exact k2 b m
        · obtain ⟨od, u, e1, e2⟩ := g a List.mem_cons_self
          rw [h1] at e1
          cases e1
          rw [ex] at e2
          exact .scr (.inl (.inr ⟨od, e2⟩))
/-- a value without told lists stands apart from the locked ones -/
theorem nos_and {a b : Bool} (h : (a && b) = true) : a = true ∧ b = true := by simpa using h
mutual
theorem rp_nos {a : Addr} {F : List Addr} (hF : ∀ b, b ∈ F → ∃ od u, G b = some (.frz od u)) (ha : ∃ b xs, b ∈ F ∧ G a = some (.lst (.ref b :: xs))) (k : ∀ b o, b ∉ a :: F → G b = some o → G' b = some o) : ∀ {v : V} {d : D}, Rp κ G v d → d.nos = true → Rp κ G' v d ∧ ∀ b, b ∈ F → v ≠ .ref b
  | _, _, .non, _ => ⟨.non, fun _ _ z => nomatch z⟩
  | _, _, .bl b, _ => ⟨.bl b, fun _ _ z => nomatch z⟩
  | _, _, .int b, _ => ⟨.int b, fun _ _ z => nomatch z⟩
  | _, _, .str b, _ => ⟨.str b, fun _ _ z => nomatch z⟩
  | _, _, @Rp.lst _ _ c xs ds h t, n => by
    obtain ⟨t1, t2⟩ := rpa_nos hF ha k t (by unfold D.nos at n; exact n)
    have nF : c ∉ F := fun m => by
      obtain ⟨od, u, e⟩ := hF c m
      rw [h] at e; cases e
    refine ⟨.lst (k c _ (fun m => ?_) h) t1, fun b m z => by cases z; exact nF m⟩
    rcases List.mem_cons.mp m with rfl | m
    · obtain ⟨b, ys, m, e⟩ := ha
      rw [h] at e
      cases e
      exact t2 b m List.mem_cons_self
    · exact nF m
  | _, _, @Rp.tup _ _ c xs ds h t, n => by
    obtain ⟨t1, t2⟩ := rpa_nos hF ha k t (by unfold D.nos at n; exact n)
    have nF : c ∉ F := fun m => by
      obtain ⟨od, u, e⟩ := hF c m
      rw [h] at e; cases e
    refine ⟨.tup (k c _ (fun m => ?_) h) t1, fun b m z => by cases z; exact nF m⟩
    rcases List.mem_cons.mp m with rfl | m
    · obtain ⟨b, ys, m, e⟩ := ha
      rw [h] at e
      cases e
    · exact nF m
  | _, _, @Rp.ob _ _ c dx cl fs ds h h2 t, n => by
    obtain ⟨t1, t2⟩ := rpa_nos hF ha k t (by unfold D.nos at n; exact n)
    have nF : c ∉ F := fun m => by
      obtain ⟨od, u, e⟩ := hF c m
      rw [h] at e; cases e
    refine ⟨.ob (k c _ (fun m => ?_) h) h2 t1, fun b m z => by cases z; exact nF m⟩
    rcases List.mem_cons.mp m with rfl | m
    · obtain ⟨b, ys, m, e⟩ := ha
      rw [h] at e
      cases e
    · exact nF m
  | _, _, .scr _, n => nomatch n
  | _, _, .xn _, n => nomatch n
theorem rpa_nos {a : Addr} {F : List Addr} (hF : ∀ b, b ∈ F → ∃ od u, G b = some (.frz od u)) (ha : ∃ b xs, b ∈ F ∧ G a = some (.lst (.ref b :: xs))) (k : ∀ b o, b ∉ a :: F → G b = some o → G' b = some o) : ∀ {vs : List V} {ds : List D}, RpA κ G vs ds → nosA ds = true → RpA κ G' vs ds ∧ ∀ b, b ∈ F → .ref b ∉ vs
  | _, _, .nil, _ => ⟨.nil, fun _ _ m => nomatch m⟩
  | _, _, .cons r t, n => by
    obtain ⟨n1, n2⟩ := nos_and (by unfold nosA at n; exact n)
    obtain ⟨r1, r2⟩ := rp_nos hF ha k r n1
    obtain ⟨t1, t2⟩ := rpa_nos hF ha k t n2
    refine ⟨.cons r1 t1, fun b m z => ?_⟩
    rcases List.mem_cons.mp z with z | z
    · exact r2 b m z.symm
    · exact t2 b m z
end
/-- an own thing's addresses are told by where it lies -/
theorem RFs.det : ∀ {vs : List V} {fs : List Fd} {F F' : List Addr}, RFs κ H G vs fs F → RFs κ H' G' vs fs F' → F = F'
  | _, _, _, _, .nil, .nil => rfl
  | _, _, _, _, .sh _ t, .sh _ t' => RFs.det t t'
  | _, _, _, _, .ow _ _ _ _ t, .ow _ _ _ _ t' => by rw [RFs.det t t']
theorem RO.det {v : V} {o : O} {F F' : List Addr} (g : Grw H H') (r : RO κ H G v o F) (r' : RO κ H' G' v o F') : F = F' := by
  cases r with
  | ls _ _ _ => cases r'; rfl
  | dc _ _ _ => cases r'; rfl
  | ob h1 _ _ t _ =>
    cases r' with
    | ob k1 _ _ t' _ =>
      rw [g.at h1] at k1
      cases k1
      rw [t.det t']
  | @sq a b xs fs F h1 _ t _ =>
    cases r' with
    | sq k1 _ t' _ =>
      rw [g.at h1 (sqH_pln _ _).1] at k1
      obtain ⟨_, rfl⟩ := sqH_inj (Option.some.inj k1)
      rw [t.det t']
end
section
variable {X : Cx} {κ : Kx} {W : WX}
theorem lockQ_tr {i : Nat} {m : Sm Rs} {σ : L2.St} {H : Hp} {Q : VK} (h : tX κ W (RV κ) (xLockQ i m) σ H Q) : tLockF (tX κ W (RV κ) m) σ H Q := by
  obtain ⟨G, env, r, q⟩ := h
  unfold xLockQ at q
  split at q
  · rename_i fs es
    cases hr : rowI fs with
    | none => rw [hr] at q; exact q.elim
    | some rows =>
      rw [hr] at q
      dsimp only at q
      obtain ⟨dd, hdd⟩ : ∃ dd, dd = D.lst (rows.map .scr) := ⟨_, rfl⟩
      rw [← hdd] at q
      cases hm : m (env.set i (.sh dd)) with
      | none => rw [hm] at q; exact q.elim
      | some o => cases o with
        | ex x e1 => rw [hm] at q; exact q.elim
        | ok z e1 =>
          rw [hm] at q
          cases z with
          | ow l => exact q.elim
          | tr o => exact q.elim
          | sh d =>
            dsimp only at q
            split at q
            · rename_i hc
              obtain ⟨c1, c2, c3⟩ := hc
              subst c3
              obtain ⟨e0, a, xs, F, k1, k2, k3, k4, k5, k6⟩ := sq_at r es
              obtain ⟨w0, w1, w2, w3, w4⟩ := rows_in k5 hr
              have Ha : H a = some (.lst xs) := k3
              have own : ∀ b, b ∈ a :: F → Own G env i b := fun b mb => ⟨_, _, e0, rfl, by rw [k2]; exact mb⟩
              have hi : i < env.length := (List.getElem?_eq_some_iff.mp e0).1
              refine .inr ⟨F, w1, fun b mb => ?_, fun HL l1 l2 => ?_⟩
              · obtain ⟨ys, e⟩ := w3 b mb
                exact ⟨_, e, True.intro⟩
              · have La : HL a = some (.lst xs) := by rw [l1 a k6]; exact Ha
                have gno : ∀ b, b ∈ a :: F → G.g b = none := fun b mb => (r.own (own b mb)).2
                have subL : Sub κ G.g HL := ⟨fun b o e => by
                  have nb : b ∉ F := fun mb => by
                    rw [gno b (List.mem_cons_of_mem _ mb)] at e
                    cases e
                  rw [l1 b nb]
                  exact r.sub.s b o e, r.sub.n, tabs_of r.sub.t fun b o e np => by
                    have nb : b ∉ F := fun mb => by
                      obtain ⟨ys, e2⟩ := w3 b mb
                      rw [e] at e2
                      cases e2
                      exact np ⟨(fun _ z => nomatch z), fun _ z => nomatch z⟩
                    rw [l1 b nb]
                    exact e⟩
                have sub2 : Sub κ (frzG HL G.g (a :: F)) HL := frz_sub subL fun b o mb e => by
                  rcases List.mem_cons.mp mb with rfl | mb
                  · rw [La] at e; cases e; exact fun _ z => nomatch z
                  · obtain ⟨od, u, _, e2⟩ := l2 b mb
                    rw [e2] at e; cases e; exact fun _ z => nomatch z
                have sg : Same G.g (frzG HL G.g (a :: F)) := same_frz gno
                have rp : Rp κ (frzG HL G.g (a :: F)) (.ref a) dd := by
                  rw [hdd]
                  refine .lst (by rw [frz_in List.mem_cons_self]; exact La) (w4 _ fun b mb => ?_)
                  obtain ⟨od, u, e1, e2⟩ := l2 b mb
                  exact ⟨od, u, e1, by rw [frz_in (List.mem_cons_of_mem _ mb)]; exact e2⟩
                have re := r.re (s := .sh dd) (F := []) (H' := HL) (g' := frzG HL G.g (a :: F)) (x := some (.ref a)) hi sub2 sg ⟨rfl, _, rfl, rp⟩ (fun j t b w e mb o h => by
                  have nb : b ∉ F := fun z => w (r.inj i j b t (own b (List.mem_cons_of_mem _ z)) e mb)
                  rw [l1 b nb]
                  exact h) (fun j b w ow => by
                  obtain ⟨t', o', e', z', m'⟩ := id ow
                  rw [frz_out fun mb => w (r.inj i j b t' (own b mb) e' m')]
                  exact (r.own ow).2) fun b mb => by cases mb
                rw [set_same k1] at re
                refine ⟨_, _, re, ?_⟩
                rw [hm]
                intro v H' G' r1 rv s1 f1
                have hk : ∀ b, b ∈ F → H' b = HL b := fun b mb => by
                  obtain ⟨od, u, _, e2⟩ := l2 b mb
                  rw [e2, s1.at e2 (fun _ z => nomatch z)]
                refine ⟨hk, ?_⟩
                obtain ⟨g2, hg2⟩ : ∃ g2 : Hp, g2 = frzG (fun _ => none) G'.g (a :: F) := ⟨_, rfl⟩
                have g2in : ∀ b, b ∈ a :: F → g2 b = none := fun b mb => by rw [hg2, frz_in mb]
                have g2out : ∀ b, b ∉ a :: F → g2 b = G'.g b := fun b mb => by rw [hg2, frz_out mb]
                have gw : Grw H (frzG H H' F) := fun b o e => by
                  by_cases mb : b ∈ F
                  · exact ⟨o, by rw [frz_in mb]; exact e, fun _ => rfl⟩
                  · rw [frz_out mb]
                    exact s1 b o (by rw [l1 b mb]; exact e)
                have sg2 : Same G.g g2 := fun b o e => by
                  have nb : b ∉ a :: F := fun mb => by rw [gno b mb] at e; cases e
                  rw [g2out b nb]
                  exact f1.gk b o (sg b o e)
                have sub3 : Sub κ g2 (frzG H H' F) := ⟨fun b o e => by
                  have nb : b ∉ a :: F := fun mb => by rw [g2in b mb] at e; cases e
                  rw [g2out b nb] at e
                  rw [frz_out fun z => nb (List.mem_cons_of_mem _ z)]
                  exact r1.sub.s b o e, fun b o e => by
                  have nb : b ∉ a :: F := fun mb => by rw [g2in b mb] at e; cases e
                  rw [g2out b nb] at e
                  exact r1.sub.n b o e, tabs_of r1.sub.t fun b o e np => by
                    have nb : b ∉ F := fun mb => by
                      obtain ⟨od, u, _, e2⟩ := l2 b mb
                      rw [hk b mb, e2] at e
                      cases e
                      exact np ⟨(fun _ z => nomatch z), fun _ z => nomatch z⟩
                    rw [frz_out nb]
                    exact e⟩
                have own2 : ∀ j b, Own G env j b → g2 b = none := fun j b ow => by
                  by_cases mb : b ∈ a :: F
                  · exact g2in b mb
                  · rw [g2out b mb]
                    obtain ⟨s, o, es', et, em⟩ := ow
                    have nij : i ≠ j := fun z => by
                      subst z
                      rw [k2] at em
                      exact mb em
                    have es2 : (env.set i (.sh dd))[j]? = some s := by rw [List.getElem?_set_ne nij]; exact es'
                    obtain ⟨x1, x2, x3⟩ := (re.slot j s es2).th et
                    obtain ⟨y1, y2, y3⟩ := (r1.slot j s es2).th et
                    rw [x2] at y2
                    cases y2
                    have d1 := RO.det s1 x3 y3
                    have fp1 : (G.put i []).fp j = G.fp j := put_ne nij
                    have d1 : (G.put i []).fp j = G'.fp j := d1
                    exact (r1.own ⟨s, o, es2, et, by rw [← d1, fp1]; exact em⟩).2
                have rep := r.grow (H' := frzG H H' F) (G' := ⟨g2, G.fp⟩) gw sg2 sub3 (fun _ => rfl) own2
                have rv2 : Rp κ g2 v d := (rp_nos (G := G'.g) (G' := g2) (a := a) (F := F) (fun b mb => by
                  obtain ⟨od, u, _, e2⟩ := l2 b mb
                  exact ⟨od, u, f1.gk b _ (by
                    show frzG HL G.g (a :: F) b = _
                    rw [frz_in (List.mem_cons_of_mem _ mb)]
                    exact e2)⟩) (by
                  cases F with
                  | nil =>
                    have : xs = [] := by rw [w0]; rfl
                    cases rows with
                    | nil => exact absurd rfl c1
                    | cons r0 rr =>
                      cases fs with
                      | nil => cases hr
                      | cons f fr =>
                        have := k5.len
                        rw [w0] at this
                        cases this
                  | cons b F =>
                    refine ⟨b, F.map V.ref, List.mem_cons_self, f1.gk a _ ?_⟩
                    show frzG HL G.g _ a = _
                    rw [frz_in List.mem_cons_self, La, w0]
                    rfl) (fun b o nb e => by rw [g2out b nb]; exact e) rv c2).1
                refine q v _ ⟨g2, G.fp⟩ rep rv2 gw (Fr.same gw sg2 (fun b o h g n => ?_) (fun _ _ _ h => h) fun _ _ _ h => ⟨h, rfl⟩)
                show g2 b = none
                by_cases mb : b ∈ a :: F
                · exact g2in b mb
                · rw [g2out b mb]
                  have nb : b ∉ F := fun z => mb (List.mem_cons_of_mem _ z)
                  refine f1.gn b o (by rw [l1 b nb]; exact h) ?_ fun ⟨j, s, e1, e2, e3⟩ => ?_
                  · show frzG HL G.g (a :: F) b = none
                    rw [frz_out mb]
                    exact g
                  · have nij : i ≠ j := fun z => by
                      subst z
                      rw [List.getElem?_set_self hi] at e1
                      cases e1
                      cases e2
                    rw [List.getElem?_set_ne nij] at e1
                    have e3 : b ∈ (G.put i []).fp j := e3
                    rw [put_ne nij] at e3
                    exact n ⟨j, s, e1, e2, e3⟩
            · exact q.elim
  · exact .inl ⟨G, env, r, q⟩
theorem v_lockQ {e : Expr} {i : Nat} {m : Sm Rs} (h : PE X e (tX κ W (RV κ) m)) : PE X e (tX κ W (RV κ) (xLockQ i m)) := PE.imp (pe_lockF h) fun σ H Q q => lockQ_tr q
end
end Vs


set_option Elab.async false
set_option linter.all false
set_option maxRecDepth 100000
set_option maxHeartbeats 4000000
/-! Vm: plain lemmas about the functions that the reading gives. -/
namespace Vs
open PySem L2
theorem rng_len (lo : Int) (n : Nat) : (rng lo n).length = n := by simp [rng]
theorem rng_get {lo : Int} {n i : Nat} {d : D} (h : (rng lo n)[i]? = some d) : i < n ∧ d = .int (lo + (i : Int)) := by
  have hi : i < (rng lo n).length := (List.getElem?_eq_some_iff.mp h).1
  rw [rng_len] at hi
  unfold rng at h
  rw [List.getElem?_map, List.getElem?_range hi] at h
  cases h
  exact ⟨hi, rfl⟩
/-- a loop that may be left early -/
theorem forL_out {tg : D → En → Option En} {body : Ss} (P : Nat → En → Prop) (R : SO → Prop) : ∀ (ds : List D) (k : Nat) (e : En), P k e →
    (∀ i d e, ds[i]? = some d → P (k + i) e → ∃ e1, tg d e = some e1 ∧ ∃ o, body e1 = some o ∧ match o with
      | .nx e2 => P (k + i + 1) e2
      | .ct e2 => P (k + i + 1) e2
      | .bk e2 => R (.nx e2)
      | o => R o) → (∀ e, P (k + ds.length) e → R (.nx e)) → ∃ o, forL tg body ds e = some o ∧ R o
  | [], k, e, h, _, hd => ⟨_, rfl, hd e h⟩
  | d :: ds, k, e, h, hs, hd => by
    obtain ⟨e1, h1, o, h2, h3⟩ := hs 0 d e rfl h
    have step : ∀ e2, P (k + 1) e2 → ∃ o, forL tg body ds e2 = some o ∧ R o := fun e2 h4 =>
      forL_out P R ds (k + 1) e2 h4 (fun i d' e' q p => by
        have := hs (i + 1) d' e' (by simpa using q) (by rw [show k + (i + 1) = k + 1 + i by omega]; exact p)
        rw [show k + (i + 1) = k + 1 + i by omega] at this
        exact this) fun e' p => hd e' (by rw [List.length_cons, show k + (ds.length + 1) = k + 1 + ds.length by omega]; exact p)
    dsimp only [forL]
    rw [h1]
    dsimp only
    rw [h2]
    cases o with
    | nx e2 => exact step e2 h3
    | ct e2 => exact step e2 h3
    | bk e2 => exact ⟨_, rfl, h3⟩
    | rt r => exact ⟨_, rfl, h3⟩
    | rv r e2 => exact ⟨_, rfl, h3⟩
    | ex x e2 => exact ⟨_, rfl, h3⟩
/-- a loop that runs through -/
theorem forL_inv {tg : D → En → Option En} {body : Ss} (P : Nat → En → Prop) (ds : List D) (e : En) (h : P 0 e)
    (hs : ∀ i d e, ds[i]? = some d → P i e → ∃ e1, tg d e = some e1 ∧ ∃ e2, body e1 = some (.nx e2) ∧ P (i + 1) e2) : ∃ e', forL tg body ds e = some (.nx e') ∧ P ds.length e' := by
  obtain ⟨o, h1, e', h2, h3⟩ := forL_out P (fun o => ∃ e', o = .nx e' ∧ P ds.length e') ds 0 e h (fun i d e q p => by
    obtain ⟨e1, g1, e2, g2, g3⟩ := hs i d e q (by simpa using p)
    exact ⟨e1, g1, _, g2, by simpa using g3⟩) fun e p => ⟨e, rfl, by simpa using p⟩
  subst h2
  exact ⟨e', h1, h3⟩
theorem atI_of {α : Type} (l : List α) {i : Int} (h : 0 ≤ i) : atI l i = l[i.toNat]? := by
  unfold atI ixN
  rw [if_pos h]
  by_cases q : i < l.length
  · rw [if_pos q]
    rfl
  · rw [if_neg q]
    symm
    show l[i.toNat]? = none
    rw [List.getElem?_eq_none_iff]
    omega
theorem sIx_pos (n d : Nat) {i : Int} (h : 0 ≤ i) : HT.sIx n d (some i) = min i.toNat n := by
  show (if i < 0 then (i + (n : Int)).toNat else min i.toNat n) = min i.toNat n
  rw [if_neg (by omega)]
theorem cutL_take {α : Type} (l : List α) {i : Int} (h : 0 ≤ i) : cutL l none (some i) = l.take i.toNat := by
  unfold cutL
  rw [HT.sIx_none, sIx_pos _ _ h, List.drop_zero, Nat.sub_zero]
  by_cases q : i.toNat ≤ l.length
  · rw [Nat.min_eq_left q]
  · rw [Nat.min_eq_right (by omega), List.take_length, List.take_of_length_le (by omega)]
theorem cutL_drop {α : Type} (l : List α) {i : Int} (h : 0 ≤ i) : cutL l (some i) none = l.drop i.toNat := by
  unfold cutL
  rw [HT.sIx_none, sIx_pos _ _ h]
  by_cases q : i.toNat ≤ l.length
  · rw [Nat.min_eq_left q, List.take_of_length_le (by rw [List.length_drop]; omega)]
  · rw [Nat.min_eq_right (by omega), List.drop_length, List.drop_of_length_le (by omega)]
    simp
theorem cutL_mid {α : Type} (l : List α) {i j : Int} (h : 0 ≤ i) (h2 : 0 ≤ j) : cutL l (some i) (some j) = (l.drop i.toNat).take (j.toNat - i.toNat) := by
  unfold cutL
  rw [sIx_pos _ _ h, sIx_pos _ _ h2]
  by_cases q : i.toNat ≤ l.length
  · rw [Nat.min_eq_left q]
    by_cases q2 : j.toNat ≤ l.length
    · rw [Nat.min_eq_left q2]
    · rw [Nat.min_eq_right (show l.length ≤ j.toNat by omega), List.take_of_length_le (by rw [List.length_drop]; omega), List.take_of_length_le (by rw [List.length_drop]; omega)]
  · rw [Nat.min_eq_right (show l.length ≤ i.toNat by omega), List.drop_length, List.drop_of_length_le (by omega)]
    simp
mutual
theorem eqv_self : ∀ d : D, PyData.eqv d.toP d.toP = true
  | .non => by simp [D.toP, PyData.eqv]
  | .bl b => by simp [D.toP, PyData.eqv]
  | .int i => by simp [D.toP, PyData.eqv]
  | .str w => by simp [D.toP, PyData.eqv]
  | .lst l => by simp only [D.toP, PyData.eqv, eqvA_self l]
  | .tup l => by simp only [D.toP, PyData.eqv, eqvA_self l]
  | .ob _ _ => by simp [D.toP, PyData.eqv]
  | .scr _ => by simp [D.toP, PyData.eqv]
  | .xn _ _ => by simp [D.toP, PyData.eqv]
theorem eqvA_self : ∀ l : List D, PyData.eqvAll (toPA l) (toPA l) = true
  | [] => by simp [toPA, PyData.eqvAll]
  | d :: l => by simp only [toPA, PyData.eqvAll, eqv_self d, eqvA_self l, Bool.and_self]
end
theorem plA_of : ∀ {l : List D}, (∀ d ∈ l, d.pl = true) → plA l = true
  | [], _ => by simp [plA]
  | d :: l, h => by simp only [plA, h d List.mem_cons_self, plA_of fun x m => h x (List.mem_cons_of_mem _ m), Bool.and_self]
theorem depA_of {n : Nat} : ∀ {l : List D}, (∀ d ∈ l, d.toP.depth ≤ n) → PyData.depthAll (toPA l) ≤ n
  | [], _ => by simp [toPA, PyData.depthAll]
  | d :: l, h => by
    have h1 := h d List.mem_cons_self
    have h2 := depA_of fun x m => h x (List.mem_cons_of_mem _ m)
    simp only [toPA, PyData.depthAll]
    omega
theorem okE_of {n : Nat} {l : List D} (hn : n ≤ 63) (h : ∀ d ∈ l, d.pl = true ∧ d.toP.depth ≤ n) : (D.lst l).okE = true := by
  have h1 := plA_of fun d m => (h d m).1
  have h2 := depA_of fun d m => (h d m).2
  unfold D.okE
  simp only [D.pl, D.toP, PyData.depth, h1, Bool.true_and, decide_eq_true_iff]
  omega
/-- a loop as a fold; j: what the slots hold that nobody reads again -/
theorem forL_fold {α β J : Type} {tg : D → En → Option En} {body : Ss} (enc : α → J → En) (toD : β → D) (step : α → β → α) (Inv : α → Prop) : ∀ (w : List β) (s : α) (j : J), Inv s →
    (∀ b ∈ w, ∀ s j, Inv s → ∃ e1, tg (toD b) (enc s j) = some e1 ∧ ∃ j', body e1 = some (.nx (enc (step s b) j')) ∧ Inv (step s b)) →
    ∃ j', forL tg body (w.map toD) (enc s j) = some (.nx (enc (w.foldl step s) j')) ∧ Inv (w.foldl step s)
  | [], s, j, h, _ => ⟨j, rfl, h⟩
  | b :: w, s, j, h, hs => by
    obtain ⟨e1, h1, j1, h2, h3⟩ := hs b List.mem_cons_self s j h
    obtain ⟨j', h4, h5⟩ := forL_fold enc toD step Inv w (step s b) j1 h3 fun b' m => hs b' (List.mem_cons_of_mem _ m)
    refine ⟨j', ?_, h5⟩
    rw [List.map_cons]
    dsimp only [forL]
    rw [h1]
    dsimp only
    rw [h2]
    exact h4
/-- .. that raises at the first of some kind -/
theorem forL_findX {β J : Type} {tg : D → En → Option En} {body : Ss} (enc : J → En) (toD : β → D) (p : β → Bool) (res : β → Ex) : ∀ (w : List β) (j : J),
    (∀ b ∈ w, ∀ j, ∃ e1, tg (toD b) (enc j) = some e1 ∧ ((p b = true ∧ ∃ j', body e1 = some (.ex (res b) (enc j'))) ∨ (p b = false ∧ ∃ j', body e1 = some (.nx (enc j'))))) →
    (∃ b, w.find? p = some b ∧ b ∈ w ∧ ∃ j', forL tg body (w.map toD) (enc j) = some (.ex (res b) (enc j'))) ∨ (w.find? p = none ∧ ∃ j', forL tg body (w.map toD) (enc j) = some (.nx (enc j')))
  | [], j, _ => .inr ⟨rfl, j, rfl⟩
  | b :: w, j, hs => by
    obtain ⟨e1, h1, h2⟩ := hs b List.mem_cons_self j
    rcases h2 with ⟨hp, j1, h2⟩ | ⟨hp, j1, h2⟩
    · refine .inl ⟨b, by rw [List.find?_cons_of_pos hp], List.mem_cons_self, j1, ?_⟩
      rw [List.map_cons]
      dsimp only [forL]
      rw [h1]
      dsimp only
      rw [h2]
    · have step : ∀ o, forL tg body (w.map toD) (enc j1) = o → forL tg body ((b :: w).map toD) (enc j) = o := fun o q => by
        rw [List.map_cons]
        dsimp only [forL]
        rw [h1]
        dsimp only
        rw [h2]
        exact q
      rcases forL_findX enc toD p res w j1 fun b' m => hs b' (List.mem_cons_of_mem _ m) with ⟨b', q1, q2, j2, q3⟩ | ⟨q1, j2, q3⟩
      · exact .inl ⟨b', by rw [List.find?_cons_of_neg (by rw [hp]; exact Bool.false_ne_true)]; exact q1, List.mem_cons_of_mem _ q2, j2, step _ q3⟩
      · exact .inr ⟨by rw [List.find?_cons_of_neg (by rw [hp]; exact Bool.false_ne_true)]; exact q1, j2, step _ q3⟩
/-- a comprehension without a test -/
theorem lcL_fun {β J : Type} {f : D → En → Option En} {te : Sm D} {vs : List Nat} (enc : J → En) (toD : β → D) (g : β → D) : ∀ (w : List β) (acc : List D) (j : J),
    (∀ b ∈ w, ∀ j, ∃ e1, f (toD b) (enc j) = some e1 ∧ ∃ e3, te e1 = some (.ok (g b) e3) ∧ ∃ j', unE vs e3 = enc j') →
    ∃ j', lcL f tYs te vs (w.map toD) acc (enc j) = some (.ok (.ow (acc ++ w.map g)) (enc j'))
  | [], acc, j, _ => ⟨j, by simp [lcL]⟩
  | b :: w, acc, j, hs => by
    obtain ⟨e1, h1, e3, h2, j1, h3⟩ := hs b List.mem_cons_self j
    obtain ⟨j', h4⟩ := lcL_fun enc toD g w (acc ++ [g b]) j1 fun b' m => hs b' (List.mem_cons_of_mem _ m)
    refine ⟨j', ?_⟩
    rw [List.map_cons]
    dsimp only [lcL]
    rw [h1]
    dsimp only
    rw [show tYs e1 = some (.ok true e1) from rfl]
    dsimp only
    rw [h2]
    dsimp only
    rw [h3, h4, List.append_assoc]
    rfl
/-! step by step -/
def fin : Option SO → Option FO
  | some (.nx _) => some (.rt (.sh .non))
  | some (.rt r) => some (.rt r)
  | some (.ex x _) => some (.ex x)
  | _ => none
theorem run_fin {ms : List Bool} {k : Nat} {body : Ss} {ds : List D} {r : Option FO} (h : fin (body (inis ms ds ++ List.replicate k .un)) = r) : runDef ms k body ds = r := by
  unfold runDef
  rw [← h]
  unfold fin
  cases body (inis ms ds ++ List.replicate k .un) with
  | none => rfl
  | some o => cases o <;> rfl
theorem fin_seq {m n : Ss} {e e1 : En} {r : Option FO} (h : m e = some (.nx e1)) (k : fin (n e1) = r) : fin (sSeq m n e) = r := by
  unfold sSeq
  rw [h]
  exact k
/-- a loop that only goes on -/
theorem forL_each {β J : Type} {tg : D → En → Option En} {body : Ss} (enc : J → En) (toD : β → D) : ∀ (w : List β) (j : J), (∀ b ∈ w, ∀ j, ∃ e1, tg (toD b) (enc j) = some e1 ∧ ∃ j', body e1 = some (.nx (enc j')) ∨ body e1 = some (.ct (enc j'))) → ∃ j', forL tg body (w.map toD) (enc j) = some (.nx (enc j'))
  | [], j, _ => ⟨j, rfl⟩
  | b :: w, j, h => by
    obtain ⟨e1, h1, j1, h2⟩ := h b List.mem_cons_self j
    obtain ⟨j', h3⟩ := forL_each enc toD w j1 fun c m => h c (List.mem_cons_of_mem _ m)
    refine ⟨j', ?_⟩
    rw [List.map_cons]
    dsimp only [forL]
    rw [h1]
    dsimp only
    rcases h2 with h2 | h2
    · rw [h2]
      exact h3
    · rw [h2]
      exact h3
end Vs


set_option Elab.async false
set_option linter.all false
set_option maxRecDepth 100000
set_option maxHeartbeats 4000000
namespace Lw
open PySem L2 Vs
noncomputable section
def c_SMALL : List Nat := [97, 98, 99, 100, 101, 102, 103, 104, 105, 106, 107, 108, 109, 110, 111, 112, 113, 114, 115, 116, 117, 118, 119, 120, 121, 122]
abbrev fuel : Nat := 10000000000000000000000000000000000000000
abbrev cl_World : Nat := 0
abbrev x_LetterError : Nat := 0
abbrev x_NoLetters : Nat := 1
abbrev x_NoWorld : Nat := 2
def xs : Nat → Nat → Option Bool
  | _, _ => none
def ks : Nat → Nat → Option Bool
  | _, _ => none
def xf : Nat → Option Str
  | _ => none
def fld_letters : Nat → Option Nat
  | 0 => some 0
  | _ => none
def fld_table : Nat → Option Nat
  | 0 => some 1
  | _ => none
def i1_law_cell_at : Ss := sIf (fOp cLtA (eB 1) (frz (fCl opLen (aCons (eB 0) (aNil))))) (sRet (fOp opMod (fOp opIx (eB 0) (eB 1)) (frz (fOp opPow (eC (.int 10)) (eC (.int 15)))))) (sNil)
def b_law_cell_at : Ss := sSeq (i1_law_cell_at) (sRet (shm (eC (.int 0))))
def g_law_cell_at : FSem := runDef [true, true] 0 b_law_cell_at
def l1_law_letters : Ss := sSeq (sAsg 5 (fOp opMod (eB 0) (frz (fCl opLen (aCons (eB 2) (aNil)))))) (sSeq (sAsg 0 (fOp opDiv (eB 0) (frz (fCl opLen (aCons (eB 2) (aNil)))))) (sSeq (sAsg 3 (fOp opAdd (eB 3) (fOp opIx (eB 2) (eB 5)))) (sAsg 2 (fOp opAdd (frz (fSl (eB 2) (poN) (poS (eB 5)))) (frz (fSl (eB 2) (poS (frz (fOp opAdd (eB 5) (eC (.int 1))))) (poN)))))))
def b_law_letters : Ss := sSeq (sAsg 2 (shm (eC (.str [97, 98, 99, 100, 101, 102, 103, 104, 105, 106, 107, 108, 109, 110, 111, 112, 113, 114, 115, 116, 117, 118, 119, 120, 121, 122])))) (sSeq (sAsg 3 (shm (eC (.str [])))) (sSeq (sFor (fRg1 (aCons (eB 1) (aNil))) (tgN 4) l1_law_letters) (sRetV 3)))
def g_law_letters : FSem := runDef [true, true] 4 b_law_letters
def l1_law_rows : Ss := sSeq (sAsg 3 (fOp opMod (frz (fOp opAdd (frz (fOp opMul (eB 3) (eC (.int 48271)))) (frz (fCall g_law_cell_at (aCons (eB 0) (aCons (frz (fOp opAdd (frz (fOp opAdd (eC (.int 2)) (frz (fOp opMul (eB 5) (eB 2))))) (eB 7))) (aNil))))))) (eC (.int 2147483647)))) (sApp 6 (frz (fOp opMod (eB 3) (eB 1))))
def l2_law_rows : Ss := sSeq (sAsg 6 (fLst (aNil))) (sSeq (sFor (fRg1 (aCons (eB 2) (aNil))) (tgN 7) l1_law_rows) (sApp 4 (eV 6)))
def b_law_rows : Ss := sSeq (sAsg 3 (fCall g_law_cell_at (aCons (eB 0) (aCons (eC (.int 1)) (aNil))))) (sSeq (sAsg 4 (fLst (aNil))) (sSeq (sFor (fRg1 (aCons (eB 1) (aNil))) (tgN 5) l2_law_rows) (sRetV 4)))
def g_law_rows : FSem := runDef [true, true, true] 5 b_law_rows
def i1_letters_of : Ss := sIf (fOr (fOp cLtA (frz (fCl opLen (aCons (eB 0) (aNil)))) (eC (.int 1))) (fOp cGt (frz (fCl opLen (aCons (eB 0) (aNil)))) (eC (.int 6)))) (fRaise0 x_NoLetters) (sNil)
def i2_letters_of : Ss := sIf (fOr (fOp cNinA (fOp opIx (eB 0) (eB 1)) (eC (.str c_SMALL))) (fOp cInA (fOp opIx (eB 0) (eB 1)) (frz (fSl (eB 0) (poN) (poS (eB 1)))))) (fRaise0 x_NoLetters) (sNil)
def l1_letters_of : Ss := i2_letters_of
def b_letters_of : Ss := sSeq (i1_letters_of) (sSeq (sFor (fRg1 (aCons (frz (fCl opLen (aCons (eB 0) (aNil)))) (aNil))) (tgN 1) l1_letters_of) (sRetV 0))
def g_letters_of : FSem := runDef [false] 1 b_letters_of
def i1_is_table : Ss := sIf (fNot (fCh cLeA cLeA (eC (.int 1)) (frz (fCl opLen (aCons (eB 1) (aNil)))) (eC (.int 8)))) (sRet (shm (eC (.bl false)))) (sNil)
def i2_is_table : Ss := sIf (fOp cNe (frz (fCl opLen (aCons (eB 2) (aNil)))) (frz (fCl opLen (aCons (eB 0) (aNil))))) (sRet (shm (eC (.bl false)))) (sNil)
def i3_is_table : Ss := sIf (fNot (fCh cLeA cLtA (eC (.int 0)) (eB 3) (frz (fCl opLen (aCons (eB 1) (aNil)))))) (sRet (shm (eC (.bl false)))) (sNil)
def l1_is_table : Ss := i3_is_table
def l2_is_table : Ss := sSeq (i2_is_table) (sLock 2 (sFor (eItA 2) (tgN 3) l1_is_table))
def b_is_table : Ss := sSeq (i1_is_table) (sSeq (sLock 1 (sFor (eItA 1) (tgN 2) l2_is_table)) (sRet (shm (eC (.bl true)))))
def g_is_table : FSem := runDef [true, true] 2 b_is_table
def i1_World_init : Ss := sIf (fNot (fTru (frz (fCall g_is_table (aCons (eB 1) (aCons (eB 2) (aNil))))))) (fRaise0 x_NoWorld) (sNil)
def b_World_init : Ss := sSeq (sFldS 0 fld_letters (shm (frz (fCall g_letters_of (aCons (eV 1) (aNil)))))) (sSeq (i1_World_init) (sFldS 0 fld_table (shm (frz (xLock 2 (fLc (eItA 2) (tgN 3) (tYs) (frz (fCl opList (aCons (eB 3) (aNil)))) [3]))))))
def g_World_init : FSemI := runDefI 0 [false, true] 1 b_World_init
def b_law_whole : Ss := sRet (shm (fAndV (fIsi (eB 0) .int) (fNotV (fIsi (eB 0) .bool))))
def g_law_whole : FSem := runDef [true] 0 b_law_whole
def b_World_rooms : Ss := sRet (fCl opLen (aCons (fFld fld_table (eV 0)) (aNil)))
def g_World_rooms : FSem := runDef [false] 0 b_World_rooms
def gs_rooms : Nat → Option FSem
  | 0 => some g_World_rooms
  | _ => none
def l1_law_word : Ss := sSeq (sAsg 3 (fOp opAdd (eB 3) (fOp opIx (eB 0) (frz (fOp opMod (eB 1) (frz (fCl opLen (aCons (eB 0) (aNil))))))))) (sAsg 1 (fOp opDiv (eB 1) (frz (fCl opLen (aCons (eB 0) (aNil))))))
def b_law_word : Ss := sSeq (sAsg 3 (shm (eC (.str [])))) (sSeq (sFor (fRg1 (aCons (eB 2) (aNil))) (tgN 4) l1_law_word) (sRetV 3))
def g_law_word : FSem := runDef [true, true, true] 2 b_law_word
def l1_World_led : Ss := sAsg 1 (shm (fOp opIx (fOp opIx (fFld fld_table (eV 0)) (eB 1)) (frz (fM1 opFind (fFld fld_letters (eV 0)) (eB 3)))))
def b_World_led : Ss := sSeq (sLock 2 (sFor (eItA 2) (tgN 3) l1_World_led)) (sRetV 1)
def g_World_led : FSem := runDef [false, false, true] 1 b_World_led
def gs_led : Nat → Option FSem
  | 0 => some g_World_led
  | _ => none
def l1_law_led : Ss := sAsg 2 (shm (fOp opIx (fOp opIx (eB 0) (eB 2)) (frz (fM1 opFind (eB 1) (eB 4)))))
def b_law_led : Ss := sSeq (sLock 3 (sFor (eItA 3) (tgN 4) l1_law_led)) (sRetV 2)
def g_law_led : FSem := runDef [true, true, false, true] 1 b_law_led
def i1_law_leads : Ss := sIf (fOr (fNot (fTru (frz (fCall g_law_whole (aCons (eB 6) (aNil)))))) (fOp cNe (eB 6) (frz (fCall g_law_led (aCons (eB 1) (aCons (eB 2) (aCons (eV 5) (aCons (eB 3) (aNil))))))))) (sRet (shm (eC (.bl false)))) (sNil)
def i2_law_leads : Ss := sIf (fOr (fNot (fTru (frz (fCall g_law_whole (aCons (eB 7) (aNil)))))) (fOp cNe (eB 7) (frz (fMeth gs_led (eV 0) (aCons (eV 6) (aCons (eB 4) (aNil))))))) (sRet (shm (eC (.bl false)))) (sNil)
def i3_law_leads : Ss := sIf (fOp cNe (eB 7) (frz (fCall g_law_led (aCons (eB 1) (aCons (eB 2) (aCons (eV 6) (aCons (eB 4) (aNil)))))))) (sRet (shm (eC (.bl false)))) (sNil)
def l1_law_leads : Ss := sSeq (sAsg 6 (fMeth gs_led (eV 0) (aCons (eV 5) (aCons (eB 3) (aNil))))) (sSeq (i1_law_leads) (sSeq (sAsg 7 (fMeth gs_led (eV 0) (aCons (eV 5) (aCons (frz (fOp opAdd (eB 3) (eB 4))) (aNil))))) (sSeq (i2_law_leads) (i3_law_leads))))
def b_law_leads : Ss := sSeq (sFor (fRg1 (aCons (frz (fCl opLen (aCons (eB 1) (aNil)))) (aNil))) (tgN 5) l1_law_leads) (sRet (shm (eC (.bl true))))
def g_law_leads : FSem := runDef [false, true, true, true, true] 3 b_law_leads
def b_World_table_told : Ss := sRet (fLcO (fItA (fFld fld_table (eV 0))) (tgN 1) (tYs) (fCl opList (aCons (eB 1) (aNil))) [1])
def g_World_table_told : FSem := runDef [false] 1 b_World_table_told
def gs_table_told : Nat → Option FSem
  | 0 => some g_World_table_told
  | _ => none
def i1_law_is_table : Ss := sIf (fOr (fNot (fTru (fIsi (eB 0) .list))) (fOp cNe (frz (fCl opLen (aCons (eB 0) (aNil)))) (eB 1))) (sRet (shm (eC (.bl false)))) (sNil)
def i2_law_is_table : Ss := sIf (fOr (fNot (fTru (fIsi (eB 3) .list))) (fOp cNe (frz (fCl opLen (aCons (eB 3) (aNil)))) (eB 2))) (sRet (shm (eC (.bl false)))) (sNil)
def i3_law_is_table : Ss := sIf (fOr (fNot (fTru (frz (fCall g_law_whole (aCons (eB 4) (aNil)))))) (fOr (fOp cLtA (eB 4) (eC (.int 0))) (fOp cGe (eB 4) (eB 1)))) (sRet (shm (eC (.bl false)))) (sNil)
def l1_law_is_table : Ss := i3_law_is_table
def l2_law_is_table : Ss := sSeq (i2_law_is_table) (sLock 3 (sFor (eItA 3) (tgN 4) l1_law_is_table))
def b_law_is_table : Ss := sSeq (i1_law_is_table) (sSeq (sLock 0 (sFor (eItA 0) (tgN 3) l2_law_is_table)) (sRet (shm (eC (.bl true)))))
def g_law_is_table : FSem := runDef [true, true, true] 2 b_law_is_table
def i1_law : Ss := sIf (fOr (fTmp (fun _ => true) 5 (fOp cNe (eB 5) (eB 4))) (fOr (fNot (fTru (frz (fCall g_law_whole (aCons (frz (fMeth gs_rooms (eV 6) aNil)) (aNil)))))) (fOr (fOp cNe (frz (fMeth gs_rooms (eV 6) aNil)) (eB 3)) (fOp cNe (fFld fld_letters (eV 6)) (eB 2))))) (sRet (shm (eC (.bl false)))) (sNil)
def i2_law : Ss := sIf (fNot (fTru (frz (fCall g_law_leads (aCons (eV 6) (aCons (eB 4) (aCons (eB 2) (aCons (eB 8) (aCons (eB 9) (aNil)))))))))) (sRet (shm (eC (.bl false)))) (sNil)
def i3_law : Ss := sIf (fOr (fNot (fTmp (fun _ => true) 10 (fTru (frz (fCall g_law_is_table (aCons (eB 10) (aCons (eB 3) (aCons (frz (fCl opLen (aCons (eB 2) (aNil)))) (aNil))))))))) (fTmp (fun _ => true) 10 (fOp cNe (eB 10) (eB 4)))) (sRet (shm (eC (.bl false)))) (sNil)
def i4_law : Ss := sIf (fOr (fOp cNe (frz (fMeth gs_table_told (eV 6) aNil)) (eB 4)) (fNot (fTru (frz (fCall g_law_leads (aCons (eV 6) (aCons (eB 4) (aCons (eB 2) (aCons (eB 9) (aCons (eB 8) (aNil))))))))))) (sRet (shm (eC (.bl false)))) (sNil)
def b_law : Ss := sSeq (sAsg 1 (fCall g_law_cell_at (aCons (eB 0) (aCons (eC (.int 0)) (aNil))))) (sSeq (sAsg 2 (fCall g_law_letters (aCons (frz (fOp opDiv (eB 1) (eC (.int 48)))) (aCons (frz (fOp opAdd (eC (.int 1)) (frz (fOp opMod (eB 1) (eC (.int 6)))))) (aNil))))) (sSeq (sAsg 3 (fOp opAdd (eC (.int 1)) (frz (fOp opMod (frz (fOp opDiv (eB 1) (eC (.int 6)))) (eC (.int 8)))))) (sSeq (sAsg 4 (fCall g_law_rows (aCons (eB 0) (aCons (eB 3) (aCons (frz (fCl opLen (aCons (eB 2) (aNil)))) (aNil)))))) (sSeq (sAsg 5 (xLock 4 (fLcO (eItA 4) (tgN 11) (tYs) (fCl opList (aCons (eB 11) (aNil))) [11]))) (sSeq (sAsg 6 (xLockQ 5 (shm (frz (fMake 0 g_World_init (aCons (eV 2) (aCons (eB 5) (aNil)))))))) (sSeq (i1_law) (sSeq (sAsg 7 (fCall g_law_cell_at (aCons (eB 0) (aCons (eC (.int 1)) (aNil))))) (sSeq (sAsg 8 (fCall g_law_word (aCons (eB 2) (aCons (frz (fOp opMod (frz (fOp opMul (eB 7) (frz (fOp opPow (eC (.int 48271)) (eC (.int 3)))))) (frz (fOp opPow (eC (.int 10)) (eC (.int 15)))))) (aCons (frz (fOp opMod (eB 7) (eC (.int 21)))) (aNil)))))) (sSeq (sAsg 7 (fCall g_law_cell_at (aCons (eB 0) (aCons (eC (.int 2)) (aNil))))) (sSeq (sAsg 9 (fCall g_law_word (aCons (eB 2) (aCons (frz (fOp opMod (frz (fOp opMul (eB 7) (frz (fOp opPow (eC (.int 69621)) (eC (.int 3)))))) (frz (fOp opPow (eC (.int 10)) (eC (.int 15)))))) (aCons (frz (fOp opMod (eB 7) (eC (.int 21)))) (aNil)))))) (sSeq (i2_law) (sSeq (sItS 5 (eIxI 5 (eC (.int 0))) (eC (.int 0)) (frz (fOp opMod (frz (fOp opAdd (fOp opIx (fItm 5 (eIxI 5 (eC (.int 0)))) (eC (.int 0))) (eC (.int 1)))) (eB 3)))) (sSeq (sAppQ 5 (fLst (aCons (eC (.int 0)) (aNil)))) (sSeq (sAsg 10 (fMeth gs_table_told (eV 6) aNil)) (sSeq (i3_law) (sSeq (sItS 10 (eIxI 10 (eC (.int 0))) (eC (.int 0)) (frz (fOp opMod (frz (fOp opAdd (fOp opIx (fItm 10 (eIxI 10 (eC (.int 0)))) (eC (.int 0))) (eC (.int 1)))) (eB 3)))) (sSeq (sAppQ 10 (fLst (aCons (eC (.int 0)) (aNil)))) (sSeq (i4_law) (sRet (shm (fOp (vB cEq) (frz (fMeth gs_led (frz (shm (frz (fMake 0 g_World_init (aCons (eV 2) (aCons (frz (fMeth gs_table_told (eV 6) aNil)) (aNil))))))) (aCons (frz (fOp opSub (eB 3) (eC (.int 1)))) (aCons (eB 8) (aNil))))) (frz (fMeth gs_led (eV 6) (aCons (frz (fOp opSub (eB 3) (eC (.int 1)))) (aCons (eB 8) (aNil))))))))))))))))))))))))))
def g_law : FSem := runDef [true] 11 b_law
end
end Lw


set_option Elab.async false
set_option linter.all false
set_option maxRecDepth 100000
set_option maxHeartbeats 4000000
namespace Lw
open PySem L2 Vs
/-! the cells of the script, below 10 ** 15 -/
def cell (ns : List Int) (k : Nat) : Int := ns.getD k 0
def c15 (ns : List Int) (k : Nat) : Int := cell ns k % 1000000000000000
theorem p15 : (0 : Int) ≤ 15 ∧ (15 : Int) ≤ 1000 ∧ (0 : Int) ≤ 10 ∧ (10 : Int) ≤ 1000000 := by decide
theorem e15 : (10 : Int) ^ (Int.toNat 15) = 1000000000000000 := by decide
theorem e_cell (ns : List Int) (k : Nat) : g_law_cell_at [.scr ns, .int (k : Int)] = some (.rt (.sh (.int (c15 ns k)))) := by
  unfold g_law_cell_at b_law_cell_at
  simp only [fMaxD, fEnS, sStuck, fLenS, cGtA, sAppQ, sSetQ, sForT, forTL, opSortT, fDItems, fDKeys, fLcO, D.key, fDNew, fDGet, sDPutV, fDSet, fRg3, fChV, fSortL, frL, frS, fSortB, sRem, sqAt, eIxI, fItm, fItV, chS, sItC, sItA, sItI, sItS, fTmp, Sl.mut, Sl.th, O.d, sqD, D.atm, sTryR, fSq, aConsF, aNilF, eO, sTgF, setFd, Fd.sl, opJoinRev, fLRev, runDef, runDefI, ioAt, insA, chL, getO, setO, getL, setL, obAt, eFd, eFV, eFB, fFld, fMeth, fMethI, fMake, fCallI, aHere, fIsO, sFldS, setF, Rs.fd, Fd.d, O.d, fMethD, chF, sAppF, fPopF, fPop0, fPop1, sIns, sRetI, sRetNI, fZip, fML, opAny, opAll, opSorted, opMaxL, opMinL, opRfind, opCount, List.map_cons, List.map_nil, cInA, cNinA, inD, itD, fItA, eItA, cLtA, cLeA, fRr1, fRr2, opInt, sPar, fCallD, fRaise0, fRaise1, sTryAs, sTry, aftr, noX, allEq_const, fXf, fXi, fLc, lcL, unE, tYs, Vs.ret, xLock, inis, bof, sNil, sSeq, sAsg, sRet, sRetV, sRetN, sIf, sDrop, sTg, sFor, sBrk, sCnt, sApp, sExt, sOwn, sSetI, opSetI, sLock, unlk, sbnd, bnd, fOp, fCh, fCl, fCall, fLst, fTup, fSl, fIf, fAnd, fOr, fNot, fTru, fAndV, fOrV, fNotV, fNeg, fIsi, fM1, fM2, fRg1, fRg2, fEn, fRev, fSg, fTp, fIt, eIt, eB, eV, eC, frz, shm, aCons, aNil, poN, poS, Rs.d, Rs.sl, vB, List.cons_append, List.nil_append, List.append_nil, List.replicate_zero, List.replicate_succ, List.getElem?_cons_zero, List.getElem?_cons_succ, List.set_cons_zero, List.set_cons_succ, List.length_cons, List.length_nil, opLen, lenD, opList, opAdd, opSub, opMul, opMod, opDiv, opPow, opMin, opMax, opIx, opSl, cmpB, cEq, cNe, cIsN, cNotN, truD, tgN, tgT, setAll, isKd, opFind, opFind3, opStarts, opStarts3, Nat.reduceLT, Nat.reduceAdd, Nat.reduceSub, Nat.reduceLeDiff, Int.reduceLT, Int.reduceLE, Int.reduceNeg, reduceIte, and_self, true_and, and_true, decide_true, decide_false, Int.toNat_natCast, i1_law_cell_at, p15, e15, show (0 : Int) < 1000000000000000 by decide]
  by_cases h : k < ns.length
  · have h2 : (k : Int) < (ns.length : Int) := by omega
    simp only [fMaxD, fEnS, sStuck, fLenS, cGtA, sAppQ, sSetQ, sForT, forTL, opSortT, fDItems, fDKeys, fLcO, D.key, fDNew, fDGet, sDPutV, fDSet, fRg3, fChV, fSortL, frL, frS, fSortB, sRem, sqAt, eIxI, fItm, fItV, chS, sItC, sItA, sItI, sItS, fTmp, Sl.mut, Sl.th, O.d, sqD, D.atm, sTryR, fSq, aConsF, aNilF, eO, sTgF, setFd, Fd.sl, opJoinRev, fLRev, runDef, runDefI, ioAt, insA, chL, getO, setO, getL, setL, obAt, eFd, eFV, eFB, fFld, fMeth, fMethI, fMake, fCallI, aHere, fIsO, sFldS, setF, Rs.fd, Fd.d, O.d, fMethD, chF, sAppF, fPopF, fPop0, fPop1, sIns, sRetI, sRetNI, fZip, fML, opAny, opAll, opSorted, opMaxL, opMinL, opRfind, opCount, List.map_cons, List.map_nil, cInA, cNinA, inD, itD, fItA, eItA, cLtA, cLeA, fRr1, fRr2, opInt, sPar, fCallD, fRaise0, fRaise1, sTryAs, sTry, aftr, noX, allEq_const, fXf, fXi, fLc, lcL, unE, tYs, Vs.ret, xLock, inis, bof, sNil, sSeq, sAsg, sRet, sRetV, sRetN, sIf, sDrop, sTg, sFor, sBrk, sCnt, sApp, sExt, sOwn, sSetI, opSetI, sLock, unlk, sbnd, bnd, fOp, fCh, fCl, fCall, fLst, fTup, fSl, fIf, fAnd, fOr, fNot, fTru, fAndV, fOrV, fNotV, fNeg, fIsi, fM1, fM2, fRg1, fRg2, fEn, fRev, fSg, fTp, fIt, eIt, eB, eV, eC, frz, shm, aCons, aNil, poN, poS, Rs.d, Rs.sl, vB, List.cons_append, List.nil_append, List.append_nil, List.replicate_zero, List.replicate_succ, List.getElem?_cons_zero, List.getElem?_cons_succ, List.set_cons_zero, List.set_cons_succ, List.length_cons, List.length_nil, opLen, lenD, opList, opAdd, opSub, opMul, opMod, opDiv, opPow, opMin, opMax, opIx, opSl, cmpB, cEq, cNe, cIsN, cNotN, truD, tgN, tgT, setAll, isKd, opFind, opFind3, opStarts, opStarts3, Nat.reduceLT, Nat.reduceAdd, Nat.reduceSub, Nat.reduceLeDiff, Int.reduceLT, Int.reduceLE, Int.reduceNeg, reduceIte, and_self, true_and, and_true, decide_true, decide_false, Int.toNat_natCast, decide_eq_true h2, atI_of ns (Int.natCast_nonneg k), List.getElem?_eq_getElem h, c15, cell, List.getD_eq_getElem?_getD, Option.getD_some]
  · have h2 : ¬ (k : Int) < (ns.length : Int) := by omega
    simp only [fMaxD, fEnS, sStuck, fLenS, cGtA, sAppQ, sSetQ, sForT, forTL, opSortT, fDItems, fDKeys, fLcO, D.key, fDNew, fDGet, sDPutV, fDSet, fRg3, fChV, fSortL, frL, frS, fSortB, sRem, sqAt, eIxI, fItm, fItV, chS, sItC, sItA, sItI, sItS, fTmp, Sl.mut, Sl.th, O.d, sqD, D.atm, sTryR, fSq, aConsF, aNilF, eO, sTgF, setFd, Fd.sl, opJoinRev, fLRev, runDef, runDefI, ioAt, insA, chL, getO, setO, getL, setL, obAt, eFd, eFV, eFB, fFld, fMeth, fMethI, fMake, fCallI, aHere, fIsO, sFldS, setF, Rs.fd, Fd.d, O.d, fMethD, chF, sAppF, fPopF, fPop0, fPop1, sIns, sRetI, sRetNI, fZip, fML, opAny, opAll, opSorted, opMaxL, opMinL, opRfind, opCount, List.map_cons, List.map_nil, cInA, cNinA, inD, itD, fItA, eItA, cLtA, cLeA, fRr1, fRr2, opInt, sPar, fCallD, fRaise0, fRaise1, sTryAs, sTry, aftr, noX, allEq_const, fXf, fXi, fLc, lcL, unE, tYs, Vs.ret, xLock, inis, bof, sNil, sSeq, sAsg, sRet, sRetV, sRetN, sIf, sDrop, sTg, sFor, sBrk, sCnt, sApp, sExt, sOwn, sSetI, opSetI, sLock, unlk, sbnd, bnd, fOp, fCh, fCl, fCall, fLst, fTup, fSl, fIf, fAnd, fOr, fNot, fTru, fAndV, fOrV, fNotV, fNeg, fIsi, fM1, fM2, fRg1, fRg2, fEn, fRev, fSg, fTp, fIt, eIt, eB, eV, eC, frz, shm, aCons, aNil, poN, poS, Rs.d, Rs.sl, vB, List.cons_append, List.nil_append, List.append_nil, List.replicate_zero, List.replicate_succ, List.getElem?_cons_zero, List.getElem?_cons_succ, List.set_cons_zero, List.set_cons_succ, List.length_cons, List.length_nil, opLen, lenD, opList, opAdd, opSub, opMul, opMod, opDiv, opPow, opMin, opMax, opIx, opSl, cmpB, cEq, cNe, cIsN, cNotN, truD, tgN, tgT, setAll, isKd, opFind, opFind3, opStarts, opStarts3, Nat.reduceLT, Nat.reduceAdd, Nat.reduceSub, Nat.reduceLeDiff, Int.reduceLT, Int.reduceLE, Int.reduceNeg, reduceIte, and_self, true_and, and_true, decide_true, decide_false, Int.toNat_natCast, decide_eq_false h2, c15, cell, List.getD_eq_getElem?_getD, List.getElem?_eq_none (show ns.length ≤ k by omega), Option.getD_none]
    rfl
theorem c15_lo (ns : List Int) (k : Nat) : 0 ≤ c15 ns k ∧ c15 ns k < 1000000000000000 := ⟨Int.emod_nonneg _ (by decide), Int.emod_lt_of_pos _ (by decide)⟩
theorem bits15 {n j : Int} (h0 : 0 ≤ n) (h : n < 1000000000000000) (hj : Builtin.Int.intBits j ≤ 1000) : Builtin.Int.intBits n + Builtin.Int.intBits j ≤ 134217728 := by
  have h1 : Builtin.Int.intBits n ≤ 64 := PyProof.Rows.intBits_le (show n.natAbs < 2 ^ 64 by omega)
  omega
/-! unlike small letters -/
structure Lts (L : List Nat) : Prop where
  nd : L.Nodup
  lo : ∀ c ∈ L, 97 ≤ c ∧ c ≤ 122
theorem az_nd : ([97, 98, 99, 100, 101, 102, 103, 104, 105, 106, 107, 108, 109, 110, 111, 112, 113, 114, 115, 116, 117, 118, 119, 120, 121, 122] : List Nat).Nodup := by decide
theorem az_lo : ∀ c ∈ ([97, 98, 99, 100, 101, 102, 103, 104, 105, 106, 107, 108, 109, 110, 111, 112, 113, 114, 115, 116, 117, 118, 119, 120, 121, 122] : List Nat), 97 ≤ c ∧ c ≤ 122 := by decide
theorem cut_nd {l f : List Nat} {k : Nat} (hk : k < l.length) (h : (f ++ l).Nodup) : ((f ++ [l[k]]) ++ (l.take k ++ l.drop (k + 1))).Nodup := by
  have e : List.Perm ((f ++ [l[k]]) ++ (l.take k ++ l.drop (k + 1))) (f ++ l) := by
    rw [List.append_assoc]
    refine List.Perm.append_left f ?_
    have e2 : l = l.take k ++ l[k] :: l.drop (k + 1) := by
      rw [← List.drop_eq_getElem_cons hk, List.take_append_drop]
    have e3 : List.Perm ([l[k]] ++ (l.take k ++ l.drop (k + 1))) (l.take k ++ l[k] :: l.drop (k + 1)) := (List.perm_middle (l₁ := l.take k) (l₂ := l.drop (k + 1)) (a := l[k])).symm
    rw [← e2] at e3
    exact e3
  exact (e.nodup_iff).mpr h
theorem e_letters (c : Int) (m : Nat) (hm : m ≤ 26) : ∃ L, g_law_letters [.int c, .int (m : Int)] = some (.rt (.sh (.str L))) ∧ L.length = m ∧ Lts L := by
  unfold g_law_letters b_law_letters
  have hm2 : (m : Int) ≤ 1000000 ∧ -1000000 ≤ (m : Int) := by omega
  simp only [fMaxD, fEnS, sStuck, fLenS, cGtA, sAppQ, sSetQ, sForT, forTL, opSortT, fDItems, fDKeys, fLcO, D.key, fDNew, fDGet, sDPutV, fDSet, fRg3, fChV, fSortL, frL, frS, fSortB, sRem, sqAt, eIxI, fItm, fItV, chS, sItC, sItA, sItI, sItS, fTmp, Sl.mut, Sl.th, O.d, sqD, D.atm, sTryR, fSq, aConsF, aNilF, eO, sTgF, setFd, Fd.sl, opJoinRev, fLRev, runDef, runDefI, ioAt, insA, chL, getO, setO, getL, setL, obAt, eFd, eFV, eFB, fFld, fMeth, fMethI, fMake, fCallI, aHere, fIsO, sFldS, setF, Rs.fd, Fd.d, O.d, fMethD, chF, sAppF, fPopF, fPop0, fPop1, sIns, sRetI, sRetNI, fZip, fML, opAny, opAll, opSorted, opMaxL, opMinL, opRfind, opCount, List.map_cons, List.map_nil, cInA, cNinA, inD, itD, fItA, eItA, cLtA, cLeA, fRr1, fRr2, opInt, sPar, fCallD, fRaise0, fRaise1, sTryAs, sTry, aftr, noX, allEq_const, fXf, fXi, fLc, lcL, unE, tYs, Vs.ret, xLock, inis, bof, sNil, sSeq, sAsg, sRet, sRetV, sRetN, sIf, sDrop, sTg, sFor, sBrk, sCnt, sApp, sExt, sOwn, sSetI, opSetI, sLock, unlk, sbnd, bnd, fOp, fCh, fCl, fCall, fLst, fTup, fSl, fIf, fAnd, fOr, fNot, fTru, fAndV, fOrV, fNotV, fNeg, fIsi, fM1, fM2, fRg1, fRg2, fEn, fRev, fSg, fTp, fIt, eIt, eB, eV, eC, frz, shm, aCons, aNil, poN, poS, Rs.d, Rs.sl, vB, List.cons_append, List.nil_append, List.append_nil, List.replicate_zero, List.replicate_succ, List.getElem?_cons_zero, List.getElem?_cons_succ, List.set_cons_zero, List.set_cons_succ, List.length_cons, List.length_nil, opLen, lenD, opList, opAdd, opSub, opMul, opMod, opDiv, opPow, opMin, opMax, opIx, opSl, cmpB, cEq, cNe, cIsN, cNotN, truD, tgN, tgT, setAll, isKd, opFind, opFind3, opStarts, opStarts3, Nat.reduceLT, Nat.reduceAdd, Nat.reduceSub, Nat.reduceLeDiff, Int.reduceLT, Int.reduceLE, Int.reduceNeg, reduceIte, and_self, true_and, and_true, decide_true, decide_false, Int.toNat_natCast, hm2]
  obtain ⟨e', h1, c', left, found, s1, s2, rfl, h2, h3, h4, h5⟩ := forL_inv (tg := tgN 4) (body := l1_law_letters) (fun i e => ∃ (c' : Int) (left found : List Nat) (s1 s2 : Sl), e = [.sh (.int c'), .sh (.int m), .sh (.str left), .sh (.str found), s1, s2] ∧ left.length = 26 - i ∧ found.length = i ∧ (found ++ left).Nodup ∧ ∀ x ∈ found ++ left, 97 ≤ x ∧ x ≤ 122)
    (rng 0 m) _ ⟨_, _, [], .un, .un, rfl, rfl, rfl, az_nd, az_lo⟩ (fun i d e hd ⟨n, left, found, s1, s2, he, h2, h3, h4, h5⟩ => by
      obtain ⟨hi, rfl⟩ := rng_get hd
      subst he
      have hl : 0 < left.length := by omega
      have hl0 : (0 : Int) < (left.length : Int) := by omega
      have hl1 : (0 : Int) < (left.length : Int) ∧ (left.length : Int) < 1000000000000000000000000000 := by omega
      have p1 := Int.emod_nonneg n (show (left.length : Int) ≠ 0 by omega)
      have p2 := Int.emod_lt_of_pos n hl0
      have hk : (n % (left.length : Int)).toNat < left.length := by omega
      refine ⟨_, rfl, ?_⟩
      unfold l1_law_letters
      have z1 : left.length ≤ szl := by show left.length ≤ 1000000; omega
      have z2 : found.length + 1 ≤ szl := by
        show found.length + 1 ≤ 1000000
        omega
      have e1 : (n % (left.length : Int) + 1).toNat = (n % (left.length : Int)).toNat + 1 := by omega
      have z3 : (left.take (n % (left.length : Int)).toNat).length + (left.drop ((n % (left.length : Int)).toNat + 1)).length ≤ szl := by
        rw [List.length_take, List.length_drop]
        show _ ≤ 1000000
        omega
      simp only [fMaxD, fEnS, sStuck, fLenS, cGtA, sAppQ, sSetQ, sForT, forTL, opSortT, fDItems, fDKeys, fLcO, D.key, fDNew, fDGet, sDPutV, fDSet, fRg3, fChV, fSortL, frL, frS, fSortB, sRem, sqAt, eIxI, fItm, fItV, chS, sItC, sItA, sItI, sItS, fTmp, Sl.mut, Sl.th, O.d, sqD, D.atm, sTryR, fSq, aConsF, aNilF, eO, sTgF, setFd, Fd.sl, opJoinRev, fLRev, runDef, runDefI, ioAt, insA, chL, getO, setO, getL, setL, obAt, eFd, eFV, eFB, fFld, fMeth, fMethI, fMake, fCallI, aHere, fIsO, sFldS, setF, Rs.fd, Fd.d, O.d, fMethD, chF, sAppF, fPopF, fPop0, fPop1, sIns, sRetI, sRetNI, fZip, fML, opAny, opAll, opSorted, opMaxL, opMinL, opRfind, opCount, List.map_cons, List.map_nil, cInA, cNinA, inD, itD, fItA, eItA, cLtA, cLeA, fRr1, fRr2, opInt, sPar, fCallD, fRaise0, fRaise1, sTryAs, sTry, aftr, noX, allEq_const, fXf, fXi, fLc, lcL, unE, tYs, Vs.ret, xLock, inis, bof, sNil, sSeq, sAsg, sRet, sRetV, sRetN, sIf, sDrop, sTg, sFor, sBrk, sCnt, sApp, sExt, sOwn, sSetI, opSetI, sLock, unlk, sbnd, bnd, fOp, fCh, fCl, fCall, fLst, fTup, fSl, fIf, fAnd, fOr, fNot, fTru, fAndV, fOrV, fNotV, fNeg, fIsi, fM1, fM2, fRg1, fRg2, fEn, fRev, fSg, fTp, fIt, eIt, eB, eV, eC, frz, shm, aCons, aNil, poN, poS, Rs.d, Rs.sl, vB, List.cons_append, List.nil_append, List.append_nil, List.replicate_zero, List.replicate_succ, List.getElem?_cons_zero, List.getElem?_cons_succ, List.set_cons_zero, List.set_cons_succ, List.length_cons, List.length_nil, opLen, lenD, opList, opAdd, opSub, opMul, opMod, opDiv, opPow, opMin, opMax, opIx, opSl, cmpB, cEq, cNe, cIsN, cNotN, truD, tgN, tgT, setAll, isKd, opFind, opFind3, opStarts, opStarts3, Nat.reduceLT, Nat.reduceAdd, Nat.reduceSub, Nat.reduceLeDiff, Int.reduceLT, Int.reduceLE, Int.reduceNeg, reduceIte, and_self, true_and, and_true, decide_true, decide_false, Int.toNat_natCast, z1, hl0, hl1, atI_of left p1, List.getElem?_eq_getElem hk, cutL_take left p1, cutL_drop left (show 0 ≤ n % (left.length : Int) + 1 by omega), e1, z2, z3]
      refine ⟨_, rfl, _, _, _, _, _, rfl, ?_, ?_, ?_, ?_⟩
      · rw [List.length_append, List.length_take, List.length_drop]
        omega
      · rw [List.length_append, List.length_cons, List.length_nil]
        omega
      · exact cut_nd hk h4
      · intro x hx
        refine h5 x ?_
        simp only [List.mem_append, List.mem_cons, List.not_mem_nil, or_false] at hx ⊢
        rcases hx with (hx | hx) | hx | hx
        · exact .inl hx
        · exact .inr (hx ▸ List.getElem_mem hk)
        · exact .inr (List.mem_of_mem_take hx)
        · exact .inr (List.mem_of_mem_drop hx))
  rw [h1]
  rw [rng_len] at h3
  simp only [fMaxD, fEnS, sStuck, fLenS, cGtA, sAppQ, sSetQ, sForT, forTL, opSortT, fDItems, fDKeys, fLcO, D.key, fDNew, fDGet, sDPutV, fDSet, fRg3, fChV, fSortL, frL, frS, fSortB, sRem, sqAt, eIxI, fItm, fItV, chS, sItC, sItA, sItI, sItS, fTmp, Sl.mut, Sl.th, O.d, sqD, D.atm, sTryR, fSq, aConsF, aNilF, eO, sTgF, setFd, Fd.sl, opJoinRev, fLRev, runDef, runDefI, ioAt, insA, chL, getO, setO, getL, setL, obAt, eFd, eFV, eFB, fFld, fMeth, fMethI, fMake, fCallI, aHere, fIsO, sFldS, setF, Rs.fd, Fd.d, O.d, fMethD, chF, sAppF, fPopF, fPop0, fPop1, sIns, sRetI, sRetNI, fZip, fML, opAny, opAll, opSorted, opMaxL, opMinL, opRfind, opCount, List.map_cons, List.map_nil, cInA, cNinA, inD, itD, fItA, eItA, cLtA, cLeA, fRr1, fRr2, opInt, sPar, fCallD, fRaise0, fRaise1, sTryAs, sTry, aftr, noX, allEq_const, fXf, fXi, fLc, lcL, unE, tYs, Vs.ret, xLock, inis, bof, sNil, sSeq, sAsg, sRet, sRetV, sRetN, sIf, sDrop, sTg, sFor, sBrk, sCnt, sApp, sExt, sOwn, sSetI, opSetI, sLock, unlk, sbnd, bnd, fOp, fCh, fCl, fCall, fLst, fTup, fSl, fIf, fAnd, fOr, fNot, fTru, fAndV, fOrV, fNotV, fNeg, fIsi, fM1, fM2, fRg1, fRg2, fEn, fRev, fSg, fTp, fIt, eIt, eB, eV, eC, frz, shm, aCons, aNil, poN, poS, Rs.d, Rs.sl, vB, List.cons_append, List.nil_append, List.append_nil, List.replicate_zero, List.replicate_succ, List.getElem?_cons_zero, List.getElem?_cons_succ, List.set_cons_zero, List.set_cons_succ, List.length_cons, List.length_nil, opLen, lenD, opList, opAdd, opSub, opMul, opMod, opDiv, opPow, opMin, opMax, opIx, opSl, cmpB, cEq, cNe, cIsN, cNotN, truD, tgN, tgT, setAll, isKd, opFind, opFind3, opStarts, opStarts3, Nat.reduceLT, Nat.reduceAdd, Nat.reduceSub, Nat.reduceLeDiff, Int.reduceLT, Int.reduceLE, Int.reduceNeg, reduceIte, and_self, true_and, and_true, decide_true, decide_false, Int.toNat_natCast]
  exact ⟨found, rfl, h3, ⟨(List.nodup_append.mp h4).1, fun x hx => h5 x (List.mem_append_left _ hx)⟩⟩

/-! drawn words -/
theorem e_word (L : List Nat) (c : Int) (m : Nat) (hL : 0 < L.length) (hL2 : L.length ≤ 1000) (hm : m ≤ 1000) : ∃ w, g_law_word [.str L, .int c, .int (m : Int)] = some (.rt (.sh (.str w))) ∧ w.length = m ∧ ∀ x ∈ w, x ∈ L := by
  unfold g_law_word b_law_word
  have hm2 : (m : Int) ≤ 1000000 ∧ -1000000 ≤ (m : Int) := by omega
  simp only [fMaxD, fEnS, sStuck, fLenS, cGtA, sAppQ, sSetQ, sForT, forTL, opSortT, fDItems, fDKeys, fLcO, D.key, fDNew, fDGet, sDPutV, fDSet, fRg3, fChV, fSortL, frL, frS, fSortB, sRem, sqAt, eIxI, fItm, fItV, chS, sItC, sItA, sItI, sItS, fTmp, Sl.mut, Sl.th, O.d, sqD, D.atm, sTryR, fSq, aConsF, aNilF, eO, sTgF, setFd, Fd.sl, opJoinRev, fLRev, runDef, runDefI, ioAt, insA, chL, getO, setO, getL, setL, obAt, eFd, eFV, eFB, fFld, fMeth, fMethI, fMake, fCallI, aHere, fIsO, sFldS, setF, Rs.fd, Fd.d, O.d, fMethD, chF, sAppF, fPopF, fPop0, fPop1, sIns, sRetI, sRetNI, fZip, fML, opAny, opAll, opSorted, opMaxL, opMinL, opRfind, opCount, List.map_cons, List.map_nil, cInA, cNinA, inD, itD, fItA, eItA, cLtA, cLeA, fRr1, fRr2, opInt, sPar, fCallD, fRaise0, fRaise1, sTryAs, sTry, aftr, noX, allEq_const, fXf, fXi, fLc, lcL, unE, tYs, Vs.ret, xLock, inis, bof, sNil, sSeq, sAsg, sRet, sRetV, sRetN, sIf, sDrop, sTg, sFor, sBrk, sCnt, sApp, sExt, sOwn, sSetI, opSetI, sLock, unlk, sbnd, bnd, fOp, fCh, fCl, fCall, fLst, fTup, fSl, fIf, fAnd, fOr, fNot, fTru, fAndV, fOrV, fNotV, fNeg, fIsi, fM1, fM2, fRg1, fRg2, fEn, fRev, fSg, fTp, fIt, eIt, eB, eV, eC, frz, shm, aCons, aNil, poN, poS, Rs.d, Rs.sl, vB, List.cons_append, List.nil_append, List.append_nil, List.replicate_zero, List.replicate_succ, List.getElem?_cons_zero, List.getElem?_cons_succ, List.set_cons_zero, List.set_cons_succ, List.length_cons, List.length_nil, opLen, lenD, opList, opAdd, opSub, opMul, opMod, opDiv, opPow, opMin, opMax, opIx, opSl, cmpB, cEq, cNe, cIsN, cNotN, truD, tgN, tgT, setAll, isKd, opFind, opFind3, opStarts, opStarts3, Nat.reduceLT, Nat.reduceAdd, Nat.reduceSub, Nat.reduceLeDiff, Int.reduceLT, Int.reduceLE, Int.reduceNeg, reduceIte, and_self, true_and, and_true, decide_true, decide_false, Int.toNat_natCast, hm2]
  obtain ⟨e', h1, w, n, s1, rfl, h2, h5⟩ := forL_inv (tg := tgN 4) (body := l1_law_word) (fun i e => ∃ (w : List Nat) (n : Int) (s1 : Sl), e = [.sh (.str L), .sh (.int n), .sh (.int m), .sh (.str w), s1] ∧ w.length = i ∧ ∀ x ∈ w, x ∈ L)
    (rng 0 m) _ ⟨[], c, .un, rfl, rfl, fun x hx => by cases hx⟩ (fun i d e hd ⟨w, n, s1, he, h2, h5⟩ => by
      obtain ⟨hi, rfl⟩ := rng_get hd
      subst he
      refine ⟨_, rfl, ?_⟩
      unfold l1_law_word
      have hl0 : (0 : Int) < (L.length : Int) := by omega
      have hl1 : (0 : Int) < (L.length : Int) ∧ (L.length : Int) < 1000000000000000000000000000 := by omega
      have z1 : L.length ≤ szl := by show L.length ≤ 1000000; omega
      have z2 : w.length + 1 ≤ szl := by show w.length + 1 ≤ 1000000; omega
      have p1 := Int.emod_nonneg n (show (L.length : Int) ≠ 0 by omega)
      have p2 := Int.emod_lt_of_pos n hl0
      have hk : (n % (L.length : Int)).toNat < L.length := by omega
      simp only [fMaxD, fEnS, sStuck, fLenS, cGtA, sAppQ, sSetQ, sForT, forTL, opSortT, fDItems, fDKeys, fLcO, D.key, fDNew, fDGet, sDPutV, fDSet, fRg3, fChV, fSortL, frL, frS, fSortB, sRem, sqAt, eIxI, fItm, fItV, chS, sItC, sItA, sItI, sItS, fTmp, Sl.mut, Sl.th, O.d, sqD, D.atm, sTryR, fSq, aConsF, aNilF, eO, sTgF, setFd, Fd.sl, opJoinRev, fLRev, runDef, runDefI, ioAt, insA, chL, getO, setO, getL, setL, obAt, eFd, eFV, eFB, fFld, fMeth, fMethI, fMake, fCallI, aHere, fIsO, sFldS, setF, Rs.fd, Fd.d, O.d, fMethD, chF, sAppF, fPopF, fPop0, fPop1, sIns, sRetI, sRetNI, fZip, fML, opAny, opAll, opSorted, opMaxL, opMinL, opRfind, opCount, List.map_cons, List.map_nil, cInA, cNinA, inD, itD, fItA, eItA, cLtA, cLeA, fRr1, fRr2, opInt, sPar, fCallD, fRaise0, fRaise1, sTryAs, sTry, aftr, noX, allEq_const, fXf, fXi, fLc, lcL, unE, tYs, Vs.ret, xLock, inis, bof, sNil, sSeq, sAsg, sRet, sRetV, sRetN, sIf, sDrop, sTg, sFor, sBrk, sCnt, sApp, sExt, sOwn, sSetI, opSetI, sLock, unlk, sbnd, bnd, fOp, fCh, fCl, fCall, fLst, fTup, fSl, fIf, fAnd, fOr, fNot, fTru, fAndV, fOrV, fNotV, fNeg, fIsi, fM1, fM2, fRg1, fRg2, fEn, fRev, fSg, fTp, fIt, eIt, eB, eV, eC, frz, shm, aCons, aNil, poN, poS, Rs.d, Rs.sl, vB, List.cons_append, List.nil_append, List.append_nil, List.replicate_zero, List.replicate_succ, List.getElem?_cons_zero, List.getElem?_cons_succ, List.set_cons_zero, List.set_cons_succ, List.length_cons, List.length_nil, opLen, lenD, opList, opAdd, opSub, opMul, opMod, opDiv, opPow, opMin, opMax, opIx, opSl, cmpB, cEq, cNe, cIsN, cNotN, truD, tgN, tgT, setAll, isKd, opFind, opFind3, opStarts, opStarts3, Nat.reduceLT, Nat.reduceAdd, Nat.reduceSub, Nat.reduceLeDiff, Int.reduceLT, Int.reduceLE, Int.reduceNeg, reduceIte, and_self, true_and, and_true, decide_true, decide_false, Int.toNat_natCast, z1, z2, hl0, hl1, atI_of L p1, List.getElem?_eq_getElem hk]
      refine ⟨_, rfl, _, _, _, rfl, ?_, fun x hx => ?_⟩
      · rw [List.length_append, List.length_cons, List.length_nil]
        omega
      · rcases List.mem_append.mp hx with hx | hx
        · exact h5 x hx
        · rw [List.mem_singleton.mp hx]
          exact List.getElem_mem hk)
  rw [h1]
  rw [rng_len] at h2
  simp only [fMaxD, fEnS, sStuck, fLenS, cGtA, sAppQ, sSetQ, sForT, forTL, opSortT, fDItems, fDKeys, fLcO, D.key, fDNew, fDGet, sDPutV, fDSet, fRg3, fChV, fSortL, frL, frS, fSortB, sRem, sqAt, eIxI, fItm, fItV, chS, sItC, sItA, sItI, sItS, fTmp, Sl.mut, Sl.th, O.d, sqD, D.atm, sTryR, fSq, aConsF, aNilF, eO, sTgF, setFd, Fd.sl, opJoinRev, fLRev, runDef, runDefI, ioAt, insA, chL, getO, setO, getL, setL, obAt, eFd, eFV, eFB, fFld, fMeth, fMethI, fMake, fCallI, aHere, fIsO, sFldS, setF, Rs.fd, Fd.d, O.d, fMethD, chF, sAppF, fPopF, fPop0, fPop1, sIns, sRetI, sRetNI, fZip, fML, opAny, opAll, opSorted, opMaxL, opMinL, opRfind, opCount, List.map_cons, List.map_nil, cInA, cNinA, inD, itD, fItA, eItA, cLtA, cLeA, fRr1, fRr2, opInt, sPar, fCallD, fRaise0, fRaise1, sTryAs, sTry, aftr, noX, allEq_const, fXf, fXi, fLc, lcL, unE, tYs, Vs.ret, xLock, inis, bof, sNil, sSeq, sAsg, sRet, sRetV, sRetN, sIf, sDrop, sTg, sFor, sBrk, sCnt, sApp, sExt, sOwn, sSetI, opSetI, sLock, unlk, sbnd, bnd, fOp, fCh, fCl, fCall, fLst, fTup, fSl, fIf, fAnd, fOr, fNot, fTru, fAndV, fOrV, fNotV, fNeg, fIsi, fM1, fM2, fRg1, fRg2, fEn, fRev, fSg, fTp, fIt, eIt, eB, eV, eC, frz, shm, aCons, aNil, poN, poS, Rs.d, Rs.sl, vB, List.cons_append, List.nil_append, List.append_nil, List.replicate_zero, List.replicate_succ, List.getElem?_cons_zero, List.getElem?_cons_succ, List.set_cons_zero, List.set_cons_succ, List.length_cons, List.length_nil, opLen, lenD, opList, opAdd, opSub, opMul, opMod, opDiv, opPow, opMin, opMax, opIx, opSl, cmpB, cEq, cNe, cIsN, cNotN, truD, tgN, tgT, setAll, isKd, opFind, opFind3, opStarts, opStarts3, Nat.reduceLT, Nat.reduceAdd, Nat.reduceSub, Nat.reduceLeDiff, Int.reduceLT, Int.reduceLE, Int.reduceNeg, reduceIte, and_self, true_and, and_true, decide_true, decide_false, Int.toNat_natCast]
  exact ⟨w, rfl, h2, h5⟩

/-! where a part stands -/
def stB (w p : List Nat) (i : Nat) : Bool := decide (i + p.length ≤ w.length) && ((w.drop i).take p.length == p)
theorem at_stB (w p : List Nat) (i : Nat) : PySem.StrLaws.At (S w) (S p) (S w).length i ↔ stB w p i = true := by
  unfold PySem.StrLaws.At stB
  rw [PySem.StrLaws.subAt_eq, S_len, S_len, S_cps, S_cps]
  simp
/-- the places from lo on, rising -/
def plc (w p : List Nat) (lo : Nat) : List Nat := (List.range' lo (w.length + 1 - lo)).filter (stB w p)
theorem plc_hit {w p : List Nat} {lo k : Nat} (h0 : lo ≤ k) (hk : k ≤ w.length) (h1 : stB w p k = true) (h2 : ∀ j, lo ≤ j → j < k → stB w p j = false) : plc w p lo = k :: plc w p (k + 1) := by
  unfold plc
  have e : List.range' lo (w.length + 1 - lo) = List.range' lo (k - lo) ++ k :: List.range' (k + 1) (w.length + 1 - (k + 1)) := by
    have : w.length + 1 - lo = (k - lo) + (1 + (w.length + 1 - (k + 1))) := by omega
    rw [this, ← List.range'_append_1, ← List.range'_append_1]
    rw [show lo + (k - lo) = k by omega]
    rfl
  rw [e, List.filter_append, List.filter_cons_of_pos h1]
  have : (List.range' lo (k - lo)).filter (stB w p) = [] := by
    rw [List.filter_eq_nil_iff]
    intro j hj
    rw [List.mem_range'_1] at hj
    rw [h2 j hj.1 (by omega)]
    exact Bool.false_ne_true
  rw [this, List.nil_append]
theorem plc_none {w p : List Nat} {lo : Nat} (h2 : ∀ j, lo ≤ j → stB w p j = false) : plc w p lo = [] := by
  unfold plc
  rw [List.filter_eq_nil_iff]
  intro j hj
  rw [List.mem_range'_1] at hj
  rw [h2 j hj.1]
  exact Bool.false_ne_true
theorem stB_le {w p : List Nat} {i : Nat} (h : stB w p i = true) : i ≤ w.length := by
  unfold stB at h
  rw [Bool.and_eq_true] at h
  have := of_decide_eq_true h.1
  omega
/-- the next place from lo on -/
theorem find_from (w p : List Nat) (lo : Nat) : (Txt.find3 (S w) (S p) (lo : Int) = -1 ∧ plc w p lo = []) ∨ ∃ k : Nat, Txt.find3 (S w) (S p) (lo : Int) = (k : Int) ∧ lo ≤ k ∧ k ≤ w.length ∧ plc w p lo = k :: plc w p (k + 1) := by
  unfold Txt.find3
  have e : PySem.fromIndex (S w).length (lo : Int) = lo := by
    unfold PySem.fromIndex
    rw [if_neg (by omega)]
    omega
  rw [e]
  rcases PySem.StrLaws.occ_head_from (S w) (S p) lo 1 (Nat.le_refl 1) with ⟨h0, hn⟩ | ⟨k, r, h0, hlo, hk, hn⟩
  · rw [h0]
    refine .inl ⟨rfl, plc_none fun j hj => ?_⟩
    have := hn j hj
    rw [at_stB] at this
    simpa using this
  · rw [h0]
    rw [at_stB] at hk
    refine .inr ⟨k, rfl, hlo, stB_le hk, plc_hit hlo (stB_le hk) hk fun j h1 h2 => ?_⟩
    have := hn j h1 h2
    rw [at_stB] at this
    simpa using this
theorem find_first (w p : List Nat) : Txt.find (S w) (S p) = Txt.find3 (S w) (S p) 0 := by
  unfold Txt.find Txt.find3
  have e : PySem.fromIndex (S w).length 0 = 0 := by
    unfold PySem.fromIndex
    rw [if_neg (by omega)]
    omega
  rw [e]
  cases Builtin.Str.occurrences (S w) (S p) 0 (S w).length 1 <;> rfl

/-! lists of small numbers, tables -/
def nD (l : List Nat) : List D := l.map fun (n : Nat) => D.int (n : Int)
theorem nD_len (l : List Nat) : (nD l).length = l.length := List.length_map ..
theorem nD_get {l : List Nat} {i : Nat} (h : i < l.length) : (nD l)[i]? = some (.int (l[i] : Int)) := by
  unfold nD
  rw [List.getElem?_map, List.getElem?_eq_getElem h]
  rfl
theorem nd_at {l : List Nat} {k : Nat} (h : k < l.length) : (nD l)[k]? = some (.int (l.getD k 0 : Nat)) := by
  rw [nD_get h, List.getD_eq_getElem?_getD, List.getElem?_eq_getElem h]
  rfl
def tabD (T : List (List Nat)) : List D := T.map fun r => D.lst (nD r)
theorem tabD_len (T : List (List Nat)) : (tabD T).length = T.length := List.length_map ..
theorem tab_at {T : List (List Nat)} {k : Nat} (h : k < T.length) : (tabD T)[k]? = some (.lst (nD (T.getD k []))) := by
  unfold tabD
  rw [List.getElem?_map, List.getD_eq_getElem?_getD, List.getElem?_eq_getElem h]
  rfl
theorem nD_snoc (l : List Nat) (n : Nat) : nD l ++ [.int (n : Int)] = nD (l ++ [n]) := by
  unfold nD
  rw [List.map_append, List.map_singleton]
theorem tabD_snoc (T : List (List Nat)) (r : List Nat) : tabD T ++ [.lst (nD r)] = tabD (T ++ [r]) := by
  unfold tabD
  rw [List.map_append, List.map_singleton]
/-- a table of n rows, m numbers below n each -/
structure Tb (T : List (List Nat)) (n m : Nat) : Prop where
  len : T.length = n
  row : ∀ r ∈ T, r.length = m ∧ ∀ x ∈ r, x < n
theorem getD_mem {α : Type} {l : List α} {k : Nat} {d : α} (h : k < l.length) : l.getD k d ∈ l := by
  rw [List.getD_eq_getElem?_getD, List.getElem?_eq_getElem h]
  exact List.getElem_mem h
theorem find_idx {L : List Nat} {c : Nat} (hc : c ∈ L) : Txt.find (S L) (S [c]) = ((L.idxOf c : Nat) : Int) := by
  have hi : L.idxOf c < L.length := List.idxOf_lt_length_of_mem hc
  have at_ : ∀ j, stB L [c] j = true ↔ j < L.length ∧ L[j]? = some c := fun j => by
    unfold stB
    rw [Bool.and_eq_true, decide_eq_true_iff, List.length_singleton, beq_iff_eq]
    constructor
    · rintro ⟨h1, h2⟩
      have h3 : j < L.length := by omega
      rw [List.drop_eq_getElem_cons h3] at h2
      simp only [List.take_succ_cons, List.take_zero, List.cons.injEq, and_true] at h2
      exact ⟨h3, by rw [List.getElem?_eq_getElem h3, h2]⟩
    · rintro ⟨h1, h2⟩
      rw [List.getElem?_eq_getElem h1] at h2
      refine ⟨by omega, ?_⟩
      rw [List.drop_eq_getElem_cons h1, Option.some.inj h2]
      rfl
  have pl : plc L [c] 0 = L.idxOf c :: plc L [c] (L.idxOf c + 1) := by
    refine plc_hit (Nat.zero_le _) (Nat.le_of_lt hi) ((at_ _).mpr ⟨hi, ?_⟩) fun j _ hj => ?_
    · rw [List.getElem?_eq_getElem hi, List.getElem_idxOf]
    · rw [Bool.eq_false_iff]
      intro h
      obtain ⟨h1, h2⟩ := (at_ j).mp h
      rw [List.getElem?_eq_getElem h1] at h2
      have := List.not_of_lt_findIdx (xs := L) (p := (· == c)) hj
      rw [Option.some.inj h2] at this
      simp at this
  rw [find_first]
  rcases find_from L [c] 0 with ⟨_, h2⟩ | ⟨k, h1, _, _, h4⟩
  · have h2' : plc L [c] 0 = [] := h2
    rw [h2'] at pl; cases pl
  · have h4' : plc L [c] 0 = k :: plc L [c] (k + 1) := h4
    rw [pl] at h4'
    have := (List.cons.injEq ..  ▸ h4').1
    rw [show ((0 : Nat) : Int) = 0 from rfl] at h1
    rw [h1, ← this]
/-- one letter leads on -/
def stp (T : List (List Nat)) (L : List Nat) (r c : Nat) : Nat := (T.getD r []).getD (L.idxOf c) 0
def led (T : List (List Nat)) (L : List Nat) (r : Nat) (w : List Nat) : Nat := w.foldl (stp T L) r
theorem stp_lt {T : List (List Nat)} {L : List Nat} {n r c : Nat} (h : Tb T n L.length) (hr : r < n) (hc : c ∈ L) : stp T L r c < n := by
  have h1 : r < T.length := by rw [h.len]; exact hr
  obtain ⟨h2, h3⟩ := h.row _ (getD_mem (d := []) h1)
  exact h3 _ (getD_mem (by rw [h2]; exact List.idxOf_lt_length_of_mem hc))
theorem led_lt {T : List (List Nat)} {L : List Nat} {n : Nat} (h : Tb T n L.length) : ∀ {w : List Nat} {r : Nat}, r < n → (∀ c ∈ w, c ∈ L) → led T L r w < n
  | [], r, hr, _ => hr
  | c :: w, r, hr, hw => led_lt h (w := w) (stp_lt h hr (hw c List.mem_cons_self)) fun x m => hw x (List.mem_cons_of_mem _ m)
/-! the law's own walk through a table, its drawn table -/
theorem e_law_led {T : List (List Nat)} {L w : List Nat} {n r : Nat} (h : Tb T n L.length) (hr : r < n) (hw : ∀ c ∈ w, c ∈ L) : g_law_led [.lst (tabD T), .str L, .int (r : Int), .str w] = some (.rt (.sh (.int (led T L r w : Nat)))) := by
  unfold g_law_led b_law_led
  simp (disch := first | omega | assumption) only [if_pos, if_neg, decide_eq_true, decide_eq_false, atI_of, cutL_take, cutL_drop, cutL_mid, ge_iff_le, gt_iff_lt, Int.reduceToNat, Int.toNat_zero, Int.toNat_one, Bool.not_true, Bool.not_false, szl, fMaxD, fEnS, sStuck, fLenS, cGtA, sAppQ, sSetQ, sForT, forTL, opSortT, fDItems, fDKeys, fLcO, D.key, fDNew, fDGet, sDPutV, fDSet, fRg3, fChV, fSortL, frL, frS, fSortB, sRem, sqAt, eIxI, fItm, fItV, chS, sItC, sItA, sItI, sItS, fTmp, Sl.mut, Sl.th, O.d, sqD, D.atm, sTryR, fSq, aConsF, aNilF, eO, sTgF, setFd, Fd.sl, opJoinRev, fLRev, runDef, runDefI, ioAt, insA, chL, getO, setO, getL, setL, obAt, eFd, eFV, eFB, fFld, fMeth, fMethI, fMake, fCallI, aHere, fIsO, sFldS, setF, Rs.fd, Fd.d, O.d, fMethD, chF, sAppF, fPopF, fPop0, fPop1, sIns, sRetI, sRetNI, fZip, fML, opAny, opAll, opSorted, opMaxL, opMinL, opRfind, opCount, List.map_cons, List.map_nil, cInA, cNinA, inD, itD, fItA, eItA, cLtA, cLeA, fRr1, fRr2, opInt, sPar, fCallD, fRaise0, fRaise1, sTryAs, sTry, aftr, noX, allEq_const, fXf, fXi, fLc, lcL, unE, tYs, Vs.ret, xLock, inis, bof, sNil, sSeq, sAsg, sRet, sRetV, sRetN, sIf, sDrop, sTg, sFor, sBrk, sCnt, sApp, sExt, sOwn, sSetI, opSetI, sLock, unlk, sbnd, bnd, fOp, fCh, fCl, fCall, fLst, fTup, fSl, fIf, fAnd, fOr, fNot, fTru, fAndV, fOrV, fNotV, fNeg, fIsi, fM1, fM2, fRg1, fRg2, fEn, fRev, fSg, fTp, fIt, eIt, eB, eV, eC, frz, shm, aCons, aNil, poN, poS, Rs.d, Rs.sl, vB, List.cons_append, List.nil_append, List.append_nil, List.replicate_zero, List.replicate_succ, List.getElem?_cons_zero, List.getElem?_cons_succ, List.set_cons_zero, List.set_cons_succ, List.length_cons, List.length_nil, opLen, lenD, opList, opAdd, opSub, opMul, opMod, opDiv, opPow, opMin, opMax, opIx, opSl, cmpB, cEq, cNe, cIsN, cNotN, truD, tgN, tgT, setAll, isKd, opFind, opFind3, opStarts, opStarts3, Nat.reduceLT, Nat.reduceAdd, Nat.reduceSub, Nat.reduceLeDiff, Int.reduceLT, Int.reduceLE, Int.reduceNeg, reduceIte, and_self, true_and, and_true, decide_true, decide_false, Int.toNat_natCast, itD]
  obtain ⟨j, h1, h2⟩ := forL_fold (tg := tgN 4) (body := l1_law_led) (fun (r : Nat) (x : Sl) => [.bo (tabD T), .sh (.str L), .sh (.int (r : Int)), .sh (.str w), x]) (fun c => D.str [c]) (stp T L) (fun r => r < n) w r .un hr fun c hc r x hr => by
    refine ⟨_, rfl, .sh (.str [c]), ?_, stp_lt h hr (hw c hc)⟩
    have h1 : r < T.length := by rw [h.len]; exact hr
    have h2 := (h.row _ (getD_mem (d := []) h1)).1
    have h3 := List.idxOf_lt_length_of_mem (hw c hc)
    unfold l1_law_led
    simp (disch := first | omega | assumption) only [if_pos, if_neg, decide_eq_true, decide_eq_false, atI_of, cutL_take, cutL_drop, cutL_mid, ge_iff_le, gt_iff_lt, Int.reduceToNat, Int.toNat_zero, Int.toNat_one, Bool.not_true, Bool.not_false, szl, fMaxD, fEnS, sStuck, fLenS, cGtA, sAppQ, sSetQ, sForT, forTL, opSortT, fDItems, fDKeys, fLcO, D.key, fDNew, fDGet, sDPutV, fDSet, fRg3, fChV, fSortL, frL, frS, fSortB, sRem, sqAt, eIxI, fItm, fItV, chS, sItC, sItA, sItI, sItS, fTmp, Sl.mut, Sl.th, O.d, sqD, D.atm, sTryR, fSq, aConsF, aNilF, eO, sTgF, setFd, Fd.sl, opJoinRev, fLRev, runDef, runDefI, ioAt, insA, chL, getO, setO, getL, setL, obAt, eFd, eFV, eFB, fFld, fMeth, fMethI, fMake, fCallI, aHere, fIsO, sFldS, setF, Rs.fd, Fd.d, O.d, fMethD, chF, sAppF, fPopF, fPop0, fPop1, sIns, sRetI, sRetNI, fZip, fML, opAny, opAll, opSorted, opMaxL, opMinL, opRfind, opCount, List.map_cons, List.map_nil, cInA, cNinA, inD, itD, fItA, eItA, cLtA, cLeA, fRr1, fRr2, opInt, sPar, fCallD, fRaise0, fRaise1, sTryAs, sTry, aftr, noX, allEq_const, fXf, fXi, fLc, lcL, unE, tYs, Vs.ret, xLock, inis, bof, sNil, sSeq, sAsg, sRet, sRetV, sRetN, sIf, sDrop, sTg, sFor, sBrk, sCnt, sApp, sExt, sOwn, sSetI, opSetI, sLock, unlk, sbnd, bnd, fOp, fCh, fCl, fCall, fLst, fTup, fSl, fIf, fAnd, fOr, fNot, fTru, fAndV, fOrV, fNotV, fNeg, fIsi, fM1, fM2, fRg1, fRg2, fEn, fRev, fSg, fTp, fIt, eIt, eB, eV, eC, frz, shm, aCons, aNil, poN, poS, Rs.d, Rs.sl, vB, List.cons_append, List.nil_append, List.append_nil, List.replicate_zero, List.replicate_succ, List.getElem?_cons_zero, List.getElem?_cons_succ, List.set_cons_zero, List.set_cons_succ, List.length_cons, List.length_nil, opLen, lenD, opList, opAdd, opSub, opMul, opMod, opDiv, opPow, opMin, opMax, opIx, opSl, cmpB, cEq, cNe, cIsN, cNotN, truD, tgN, tgT, setAll, isKd, opFind, opFind3, opStarts, opStarts3, Nat.reduceLT, Nat.reduceAdd, Nat.reduceSub, Nat.reduceLeDiff, Int.reduceLT, Int.reduceLE, Int.reduceNeg, reduceIte, and_self, true_and, and_true, decide_true, decide_false, Int.toNat_natCast, tab_at, find_idx (hw c hc), nd_at, stp]
  rw [h1]
  simp only [fMaxD, fEnS, sStuck, fLenS, cGtA, sAppQ, sSetQ, sForT, forTL, opSortT, fDItems, fDKeys, fLcO, D.key, fDNew, fDGet, sDPutV, fDSet, fRg3, fChV, fSortL, frL, frS, fSortB, sRem, sqAt, eIxI, fItm, fItV, chS, sItC, sItA, sItI, sItS, fTmp, Sl.mut, Sl.th, O.d, sqD, D.atm, sTryR, fSq, aConsF, aNilF, eO, sTgF, setFd, Fd.sl, opJoinRev, fLRev, runDef, runDefI, ioAt, insA, chL, getO, setO, getL, setL, obAt, eFd, eFV, eFB, fFld, fMeth, fMethI, fMake, fCallI, aHere, fIsO, sFldS, setF, Rs.fd, Fd.d, O.d, fMethD, chF, sAppF, fPopF, fPop0, fPop1, sIns, sRetI, sRetNI, fZip, fML, opAny, opAll, opSorted, opMaxL, opMinL, opRfind, opCount, List.map_cons, List.map_nil, cInA, cNinA, inD, itD, fItA, eItA, cLtA, cLeA, fRr1, fRr2, opInt, sPar, fCallD, fRaise0, fRaise1, sTryAs, sTry, aftr, noX, allEq_const, fXf, fXi, fLc, lcL, unE, tYs, Vs.ret, xLock, inis, bof, sNil, sSeq, sAsg, sRet, sRetV, sRetN, sIf, sDrop, sTg, sFor, sBrk, sCnt, sApp, sExt, sOwn, sSetI, opSetI, sLock, unlk, sbnd, bnd, fOp, fCh, fCl, fCall, fLst, fTup, fSl, fIf, fAnd, fOr, fNot, fTru, fAndV, fOrV, fNotV, fNeg, fIsi, fM1, fM2, fRg1, fRg2, fEn, fRev, fSg, fTp, fIt, eIt, eB, eV, eC, frz, shm, aCons, aNil, poN, poS, Rs.d, Rs.sl, vB, List.cons_append, List.nil_append, List.append_nil, List.replicate_zero, List.replicate_succ, List.getElem?_cons_zero, List.getElem?_cons_succ, List.set_cons_zero, List.set_cons_succ, List.length_cons, List.length_nil, opLen, lenD, opList, opAdd, opSub, opMul, opMod, opDiv, opPow, opMin, opMax, opIx, opSl, cmpB, cEq, cNe, cIsN, cNotN, truD, tgN, tgT, setAll, isKd, opFind, opFind3, opStarts, opStarts3, Nat.reduceLT, Nat.reduceAdd, Nat.reduceSub, Nat.reduceLeDiff, Int.reduceLT, Int.reduceLE, Int.reduceNeg, reduceIte, and_self, true_and, and_true, decide_true, decide_false, Int.toNat_natCast]
  rfl

theorem e_rows (ns : List Int) (n m : Nat) (hn : 0 < n) (hn8 : n ≤ 8) (hm : m ≤ 6) : ∃ T, g_law_rows [.scr ns, .int (n : Int), .int (m : Int)] = some (.rt (.ow (tabD T))) ∧ Tb T n m := by
  unfold g_law_rows b_law_rows
  have c1 := e_cell ns 1
  simp only [Int.cast_ofNat_Int] at c1
  obtain ⟨e', h1, seed, T, s1, s2, s3, rfl, h2, h2', h3, h4⟩ := forL_inv (tg := tgN 5) (body := l2_law_rows) (fun i e => ∃ (seed : Int) (T : List (List Nat)) (s1 s2 s3 : Sl), e = [.sh (.scr ns), .sh (.int (n : Int)), .sh (.int (m : Int)), .sh (.int seed), .ow (tabD T), s1, s2, s3] ∧ 0 ≤ seed ∧ seed < 1000000000000000 ∧ T.length = i ∧ ∀ r ∈ T, r.length = m ∧ ∀ x ∈ r, x < n)
    (rng 0 n) [.sh (.scr ns), .sh (.int (n : Int)), .sh (.int (m : Int)), .sh (.int (c15 ns 1)), .ow [], .un, .un, .un] ⟨_, [], _, _, _, rfl, (c15_lo ns 1).1, (c15_lo ns 1).2, rfl, fun r hr => nomatch hr⟩ (fun i d e hd ⟨seed, T, s1, s2, s3, he, h2, h2', h3, h4⟩ => by
      obtain ⟨hi, rfl⟩ := rng_get hd
      subst he
      refine ⟨_, rfl, ?_⟩
      unfold l2_law_rows
      obtain ⟨e', g1, seed', row, t, rfl, g2, g2', g3, g4⟩ := forL_inv (tg := tgN 7) (body := l1_law_rows) (fun j e => ∃ (seed : Int) (row : List Nat) (t : Sl), e = [.sh (.scr ns), .sh (.int (n : Int)), .sh (.int (m : Int)), .sh (.int seed), .ow (tabD T), .sh (.int (i : Int)), .ow (nD row), t] ∧ 0 ≤ seed ∧ seed < 1000000000000000 ∧ row.length = j ∧ ∀ x ∈ row, x < n)
        (rng 0 m) [.sh (.scr ns), .sh (.int (n : Int)), .sh (.int (m : Int)), .sh (.int seed), .ow (tabD T), .sh (.int (i : Int)), .ow [], s3] ⟨_, [], _, rfl, h2, h2', rfl, fun r hr => nomatch hr⟩ (fun j d e hd ⟨seed, row, t, he, g2, g2', g3, g4⟩ => by
          obtain ⟨hj, rfl⟩ := rng_get hd
          subst he
          refine ⟨_, rfl, ?_⟩
          unfold l1_law_rows
          have cc := e_cell ns (2 + i * m + j)
          rw [show ((2 + i * m + j : Nat) : Int) = 2 + (i : Int) * (m : Int) + (j : Int) by push_cast; rfl] at cc
          have b1 := bits15 (j := 48271) g2 g2' (by decide)
          have b2 : Builtin.Int.intBits (i : Int) + Builtin.Int.intBits (m : Int) ≤ 134217728 := by
            have h1 : Builtin.Int.intBits (i : Int) ≤ 32 := PyProof.Rows.intBits_le (show (i : Int).natAbs < 2 ^ 32 by omega)
            have h2 : Builtin.Int.intBits (m : Int) ≤ 32 := PyProof.Rows.intBits_le (show (m : Int).natAbs < 2 ^ 32 by omega)
            omega
          have q0 := c15_lo ns (2 + i * m + j)
          obtain ⟨s', hs'⟩ : ∃ s', s' = (seed * 48271 + c15 ns (2 + i * m + j)) % 2147483647 := ⟨_, rfl⟩
          have q1 : 0 ≤ s' ∧ s' < 2147483647 := by rw [hs']; exact ⟨Int.emod_nonneg _ (by decide), Int.emod_lt_of_pos _ (by decide)⟩
          have q3 := Int.emod_nonneg s' (show (n : Int) ≠ 0 by omega)
          have q4 := Int.emod_lt_of_pos s' (show (0 : Int) < n by omega)
          have e0 : (0 : Int) + (j : Int) = (j : Int) := by omega
          obtain ⟨x, hx⟩ : ∃ x : Nat, s' % (n : Int) = (x : Int) := ⟨(s' % (n : Int)).toNat, by omega⟩
          simp (disch := first | omega | assumption) only [if_pos, if_neg, decide_eq_true, decide_eq_false, atI_of, cutL_take, cutL_drop, cutL_mid, ge_iff_le, gt_iff_lt, Int.reduceToNat, Int.toNat_zero, Int.toNat_one, Bool.not_true, Bool.not_false, szl, fMaxD, fEnS, sStuck, fLenS, cGtA, sAppQ, sSetQ, sForT, forTL, opSortT, fDItems, fDKeys, fLcO, D.key, fDNew, fDGet, sDPutV, fDSet, fRg3, fChV, fSortL, frL, frS, fSortB, sRem, sqAt, eIxI, fItm, fItV, chS, sItC, sItA, sItI, sItS, fTmp, Sl.mut, Sl.th, O.d, sqD, D.atm, sTryR, fSq, aConsF, aNilF, eO, sTgF, setFd, Fd.sl, opJoinRev, fLRev, runDef, runDefI, ioAt, insA, chL, getO, setO, getL, setL, obAt, eFd, eFV, eFB, fFld, fMeth, fMethI, fMake, fCallI, aHere, fIsO, sFldS, setF, Rs.fd, Fd.d, O.d, fMethD, chF, sAppF, fPopF, fPop0, fPop1, sIns, sRetI, sRetNI, fZip, fML, opAny, opAll, opSorted, opMaxL, opMinL, opRfind, opCount, List.map_cons, List.map_nil, cInA, cNinA, inD, itD, fItA, eItA, cLtA, cLeA, fRr1, fRr2, opInt, sPar, fCallD, fRaise0, fRaise1, sTryAs, sTry, aftr, noX, allEq_const, fXf, fXi, fLc, lcL, unE, tYs, Vs.ret, xLock, inis, bof, sNil, sSeq, sAsg, sRet, sRetV, sRetN, sIf, sDrop, sTg, sFor, sBrk, sCnt, sApp, sExt, sOwn, sSetI, opSetI, sLock, unlk, sbnd, bnd, fOp, fCh, fCl, fCall, fLst, fTup, fSl, fIf, fAnd, fOr, fNot, fTru, fAndV, fOrV, fNotV, fNeg, fIsi, fM1, fM2, fRg1, fRg2, fEn, fRev, fSg, fTp, fIt, eIt, eB, eV, eC, frz, shm, aCons, aNil, poN, poS, Rs.d, Rs.sl, vB, List.cons_append, List.nil_append, List.append_nil, List.replicate_zero, List.replicate_succ, List.getElem?_cons_zero, List.getElem?_cons_succ, List.set_cons_zero, List.set_cons_succ, List.length_cons, List.length_nil, opLen, lenD, opList, opAdd, opSub, opMul, opMod, opDiv, opPow, opMin, opMax, opIx, opSl, cmpB, cEq, cNe, cIsN, cNotN, truD, tgN, tgT, setAll, isKd, opFind, opFind3, opStarts, opStarts3, Nat.reduceLT, Nat.reduceAdd, Nat.reduceSub, Nat.reduceLeDiff, Int.reduceLT, Int.reduceLE, Int.reduceNeg, reduceIte, and_self, true_and, and_true, decide_true, decide_false, Int.toNat_natCast, e0, cc, ← hs', nD_len, hx, nD_snoc]
          refine ⟨_, rfl, s', row ++ [x], _, rfl, q1.1, by omega, by simp [g3], fun y hy => ?_⟩
          rcases List.mem_append.mp hy with hy | hy
          · exact g4 y hy
          · rw [List.mem_singleton.mp hy]
            omega)
      have e0 : (0 : Int) + (i : Int) = (i : Int) := by omega
      simp (disch := first | omega | assumption) only [if_pos, if_neg, decide_eq_true, decide_eq_false, atI_of, cutL_take, cutL_drop, cutL_mid, ge_iff_le, gt_iff_lt, Int.reduceToNat, Int.toNat_zero, Int.toNat_one, Bool.not_true, Bool.not_false, szl, fMaxD, fEnS, sStuck, fLenS, cGtA, sAppQ, sSetQ, sForT, forTL, opSortT, fDItems, fDKeys, fLcO, D.key, fDNew, fDGet, sDPutV, fDSet, fRg3, fChV, fSortL, frL, frS, fSortB, sRem, sqAt, eIxI, fItm, fItV, chS, sItC, sItA, sItI, sItS, fTmp, Sl.mut, Sl.th, O.d, sqD, D.atm, sTryR, fSq, aConsF, aNilF, eO, sTgF, setFd, Fd.sl, opJoinRev, fLRev, runDef, runDefI, ioAt, insA, chL, getO, setO, getL, setL, obAt, eFd, eFV, eFB, fFld, fMeth, fMethI, fMake, fCallI, aHere, fIsO, sFldS, setF, Rs.fd, Fd.d, O.d, fMethD, chF, sAppF, fPopF, fPop0, fPop1, sIns, sRetI, sRetNI, fZip, fML, opAny, opAll, opSorted, opMaxL, opMinL, opRfind, opCount, List.map_cons, List.map_nil, cInA, cNinA, inD, itD, fItA, eItA, cLtA, cLeA, fRr1, fRr2, opInt, sPar, fCallD, fRaise0, fRaise1, sTryAs, sTry, aftr, noX, allEq_const, fXf, fXi, fLc, lcL, unE, tYs, Vs.ret, xLock, inis, bof, sNil, sSeq, sAsg, sRet, sRetV, sRetN, sIf, sDrop, sTg, sFor, sBrk, sCnt, sApp, sExt, sOwn, sSetI, opSetI, sLock, unlk, sbnd, bnd, fOp, fCh, fCl, fCall, fLst, fTup, fSl, fIf, fAnd, fOr, fNot, fTru, fAndV, fOrV, fNotV, fNeg, fIsi, fM1, fM2, fRg1, fRg2, fEn, fRev, fSg, fTp, fIt, eIt, eB, eV, eC, frz, shm, aCons, aNil, poN, poS, Rs.d, Rs.sl, vB, List.cons_append, List.nil_append, List.append_nil, List.replicate_zero, List.replicate_succ, List.getElem?_cons_zero, List.getElem?_cons_succ, List.set_cons_zero, List.set_cons_succ, List.length_cons, List.length_nil, opLen, lenD, opList, opAdd, opSub, opMul, opMod, opDiv, opPow, opMin, opMax, opIx, opSl, cmpB, cEq, cNe, cIsN, cNotN, truD, tgN, tgT, setAll, isKd, opFind, opFind3, opStarts, opStarts3, Nat.reduceLT, Nat.reduceAdd, Nat.reduceSub, Nat.reduceLeDiff, Int.reduceLT, Int.reduceLE, Int.reduceNeg, reduceIte, and_self, true_and, and_true, decide_true, decide_false, Int.toNat_natCast, e0, g1, tabD_len, tabD_snoc]
      rw [rng_len] at g3
      refine ⟨_, rfl, seed', T ++ [row], _, _, _, rfl, g2, g2', by simp [h3], fun r hr => ?_⟩
      rcases List.mem_append.mp hr with hr | hr
      · exact h4 r hr
      · rw [List.mem_singleton.mp hr]
        exact ⟨g3, g4⟩)
  simp (disch := first | omega | assumption) only [if_pos, if_neg, decide_eq_true, decide_eq_false, atI_of, cutL_take, cutL_drop, cutL_mid, ge_iff_le, gt_iff_lt, Int.reduceToNat, Int.toNat_zero, Int.toNat_one, Bool.not_true, Bool.not_false, szl, fMaxD, fEnS, sStuck, fLenS, cGtA, sAppQ, sSetQ, sForT, forTL, opSortT, fDItems, fDKeys, fLcO, D.key, fDNew, fDGet, sDPutV, fDSet, fRg3, fChV, fSortL, frL, frS, fSortB, sRem, sqAt, eIxI, fItm, fItV, chS, sItC, sItA, sItI, sItS, fTmp, Sl.mut, Sl.th, O.d, sqD, D.atm, sTryR, fSq, aConsF, aNilF, eO, sTgF, setFd, Fd.sl, opJoinRev, fLRev, runDef, runDefI, ioAt, insA, chL, getO, setO, getL, setL, obAt, eFd, eFV, eFB, fFld, fMeth, fMethI, fMake, fCallI, aHere, fIsO, sFldS, setF, Rs.fd, Fd.d, O.d, fMethD, chF, sAppF, fPopF, fPop0, fPop1, sIns, sRetI, sRetNI, fZip, fML, opAny, opAll, opSorted, opMaxL, opMinL, opRfind, opCount, List.map_cons, List.map_nil, cInA, cNinA, inD, itD, fItA, eItA, cLtA, cLeA, fRr1, fRr2, opInt, sPar, fCallD, fRaise0, fRaise1, sTryAs, sTry, aftr, noX, allEq_const, fXf, fXi, fLc, lcL, unE, tYs, Vs.ret, xLock, inis, bof, sNil, sSeq, sAsg, sRet, sRetV, sRetN, sIf, sDrop, sTg, sFor, sBrk, sCnt, sApp, sExt, sOwn, sSetI, opSetI, sLock, unlk, sbnd, bnd, fOp, fCh, fCl, fCall, fLst, fTup, fSl, fIf, fAnd, fOr, fNot, fTru, fAndV, fOrV, fNotV, fNeg, fIsi, fM1, fM2, fRg1, fRg2, fEn, fRev, fSg, fTp, fIt, eIt, eB, eV, eC, frz, shm, aCons, aNil, poN, poS, Rs.d, Rs.sl, vB, List.cons_append, List.nil_append, List.append_nil, List.replicate_zero, List.replicate_succ, List.getElem?_cons_zero, List.getElem?_cons_succ, List.set_cons_zero, List.set_cons_succ, List.length_cons, List.length_nil, opLen, lenD, opList, opAdd, opSub, opMul, opMod, opDiv, opPow, opMin, opMax, opIx, opSl, cmpB, cEq, cNe, cIsN, cNotN, truD, tgN, tgT, setAll, isKd, opFind, opFind3, opStarts, opStarts3, Nat.reduceLT, Nat.reduceAdd, Nat.reduceSub, Nat.reduceLeDiff, Int.reduceLT, Int.reduceLE, Int.reduceNeg, reduceIte, and_self, true_and, and_true, decide_true, decide_false, Int.toNat_natCast, c1, h1]
  rw [rng_len] at h3
  exact ⟨T, rfl, h3, h4⟩

/-! letters_of -/
theorem mem_small {c : Nat} : c ∈ c_SMALL ↔ 97 ≤ c ∧ c ≤ 122 := by
  unfold c_SMALL
  simp only [List.mem_cons, List.not_mem_nil, or_false]
  omega
/-- what is wrong at the k-th sign -/
def badL (t : List Nat) (k : Nat) : Bool := !decide (t.getD k 0 ∈ c_SMALL) || decide (t.getD k 0 ∈ t.take k)
/-- one to six unlike small letters -/
def goodL (t : List Nat) : Prop := 1 ≤ t.length ∧ t.length ≤ 6 ∧ t.Nodup ∧ ∀ c ∈ t, 97 ≤ c ∧ c ≤ 122
theorem badL_none {t : List Nat} : (List.range t.length).find? (badL t) = none ↔ t.Nodup ∧ ∀ c ∈ t, 97 ≤ c ∧ c ≤ 122 := by
  rw [List.find?_eq_none]
  constructor
  · intro h
    have h' : ∀ k (hk : k < t.length), t[k] ∈ c_SMALL ∧ t[k] ∉ t.take k := fun k hk => by
      have := h k (List.mem_range.mpr hk)
      unfold badL at this
      rw [List.getD_eq_getElem?_getD, List.getElem?_eq_getElem hk, Option.getD_some] at this
      simpa using this
    refine ⟨?_, fun c hc => ?_⟩
    · refine List.pairwise_iff_getElem.mpr fun i j hi hj hij e => (h' j hj).2 ?_
      rw [← e]
      exact List.mem_take_iff_getElem.mpr ⟨i, by omega, rfl⟩
    · obtain ⟨k, hk, e⟩ := List.getElem_of_mem hc
      rw [← e]
      exact mem_small.mp (h' k hk).1
  · rintro ⟨h1, h2⟩ k hk
    have hk := List.mem_range.mp hk
    unfold badL
    rw [List.getD_eq_getElem?_getD, List.getElem?_eq_getElem hk, Option.getD_some]
    have a1 : t[k] ∈ c_SMALL := mem_small.mpr (h2 _ (List.getElem_mem hk))
    have a2 : t[k] ∉ t.take k := fun m => by
      obtain ⟨i, hi, e⟩ := List.mem_take_iff_getElem.mp m
      exact List.pairwise_iff_getElem.mp h1 i k (by omega) hk (by omega) e
    simp [a1, a2]
theorem e_letters_of (t : List Nat) (ht : t.length ≤ 1000) : (goodL t ∧ g_letters_of [.str t] = some (.rt (.sh (.str t)))) ∨ (¬ goodL t ∧ g_letters_of [.str t] = some (.ex ⟨x_NoLetters, none⟩)) := by
  unfold g_letters_of b_letters_of
  by_cases h0 : 1 ≤ t.length ∧ t.length ≤ 6
  · have i1 : ∀ s, i1_letters_of [.sh (.str t), s] = some (.nx [.sh (.str t), s]) := fun s => by
      unfold i1_letters_of
      simp (disch := first | omega | assumption) only [if_pos, if_neg, decide_eq_true, decide_eq_false, atI_of, cutL_take, cutL_drop, cutL_mid, ge_iff_le, gt_iff_lt, Int.reduceToNat, Int.toNat_zero, Int.toNat_one, Bool.not_true, Bool.not_false, szl, fMaxD, fEnS, sStuck, fLenS, cGtA, sAppQ, sSetQ, sForT, forTL, opSortT, fDItems, fDKeys, fLcO, D.key, fDNew, fDGet, sDPutV, fDSet, fRg3, fChV, fSortL, frL, frS, fSortB, sRem, sqAt, eIxI, fItm, fItV, chS, sItC, sItA, sItI, sItS, fTmp, Sl.mut, Sl.th, O.d, sqD, D.atm, sTryR, fSq, aConsF, aNilF, eO, sTgF, setFd, Fd.sl, opJoinRev, fLRev, runDef, runDefI, ioAt, insA, chL, getO, setO, getL, setL, obAt, eFd, eFV, eFB, fFld, fMeth, fMethI, fMake, fCallI, aHere, fIsO, sFldS, setF, Rs.fd, Fd.d, O.d, fMethD, chF, sAppF, fPopF, fPop0, fPop1, sIns, sRetI, sRetNI, fZip, fML, opAny, opAll, opSorted, opMaxL, opMinL, opRfind, opCount, List.map_cons, List.map_nil, cInA, cNinA, inD, itD, fItA, eItA, cLtA, cLeA, fRr1, fRr2, opInt, sPar, fCallD, fRaise0, fRaise1, sTryAs, sTry, aftr, noX, allEq_const, fXf, fXi, fLc, lcL, unE, tYs, Vs.ret, xLock, inis, bof, sNil, sSeq, sAsg, sRet, sRetV, sRetN, sIf, sDrop, sTg, sFor, sBrk, sCnt, sApp, sExt, sOwn, sSetI, opSetI, sLock, unlk, sbnd, bnd, fOp, fCh, fCl, fCall, fLst, fTup, fSl, fIf, fAnd, fOr, fNot, fTru, fAndV, fOrV, fNotV, fNeg, fIsi, fM1, fM2, fRg1, fRg2, fEn, fRev, fSg, fTp, fIt, eIt, eB, eV, eC, frz, shm, aCons, aNil, poN, poS, Rs.d, Rs.sl, vB, List.cons_append, List.nil_append, List.append_nil, List.replicate_zero, List.replicate_succ, List.getElem?_cons_zero, List.getElem?_cons_succ, List.set_cons_zero, List.set_cons_succ, List.length_cons, List.length_nil, opLen, lenD, opList, opAdd, opSub, opMul, opMod, opDiv, opPow, opMin, opMax, opIx, opSl, cmpB, cEq, cNe, cIsN, cNotN, truD, tgN, tgT, setAll, isKd, opFind, opFind3, opStarts, opStarts3, Nat.reduceLT, Nat.reduceAdd, Nat.reduceSub, Nat.reduceLeDiff, Int.reduceLT, Int.reduceLE, Int.reduceNeg, reduceIte, and_self, true_and, and_true, decide_true, decide_false, Int.toNat_natCast]
    have step : ∀ k ∈ List.range t.length, ∀ j : Sl, ∃ e1, tgN 1 (.int (0 + (k : Int))) [.sh (.str t), j] = some e1 ∧ ((badL t k = true ∧ ∃ j' : Sl, l1_letters_of e1 = some (.ex ⟨x_NoLetters, none⟩ [.sh (.str t), j'])) ∨ (badL t k = false ∧ ∃ j' : Sl, l1_letters_of e1 = some (.nx [.sh (.str t), j']))) := fun k hk j => by
      have hk := List.mem_range.mp hk
      refine ⟨_, rfl, ?_⟩
      have e0 : (0 : Int) + (k : Int) = (k : Int) := by omega
      have eb : badL t k = (!decide (t[k] ∈ c_SMALL) || decide (t[k] ∈ t.take k)) := by
        unfold badL
        rw [List.getD_eq_getElem?_getD, List.getElem?_eq_getElem hk, Option.getD_some]
      rw [eb]
      unfold l1_letters_of i2_letters_of
      by_cases h1 : t[k] ∈ c_SMALL
      · by_cases h2 : t[k] ∈ t.take k
        · refine .inl ⟨by simp [h1, h2], .sh (.int (k : Int)), ?_⟩
          simp (disch := first | omega | assumption) only [if_pos, if_neg, decide_eq_true, decide_eq_false, atI_of, cutL_take, cutL_drop, cutL_mid, ge_iff_le, gt_iff_lt, Int.reduceToNat, Int.toNat_zero, Int.toNat_one, Bool.not_true, Bool.not_false, szl, fMaxD, fEnS, sStuck, fLenS, cGtA, sAppQ, sSetQ, sForT, forTL, opSortT, fDItems, fDKeys, fLcO, D.key, fDNew, fDGet, sDPutV, fDSet, fRg3, fChV, fSortL, frL, frS, fSortB, sRem, sqAt, eIxI, fItm, fItV, chS, sItC, sItA, sItI, sItS, fTmp, Sl.mut, Sl.th, O.d, sqD, D.atm, sTryR, fSq, aConsF, aNilF, eO, sTgF, setFd, Fd.sl, opJoinRev, fLRev, runDef, runDefI, ioAt, insA, chL, getO, setO, getL, setL, obAt, eFd, eFV, eFB, fFld, fMeth, fMethI, fMake, fCallI, aHere, fIsO, sFldS, setF, Rs.fd, Fd.d, O.d, fMethD, chF, sAppF, fPopF, fPop0, fPop1, sIns, sRetI, sRetNI, fZip, fML, opAny, opAll, opSorted, opMaxL, opMinL, opRfind, opCount, List.map_cons, List.map_nil, cInA, cNinA, inD, itD, fItA, eItA, cLtA, cLeA, fRr1, fRr2, opInt, sPar, fCallD, fRaise0, fRaise1, sTryAs, sTry, aftr, noX, allEq_const, fXf, fXi, fLc, lcL, unE, tYs, Vs.ret, xLock, inis, bof, sNil, sSeq, sAsg, sRet, sRetV, sRetN, sIf, sDrop, sTg, sFor, sBrk, sCnt, sApp, sExt, sOwn, sSetI, opSetI, sLock, unlk, sbnd, bnd, fOp, fCh, fCl, fCall, fLst, fTup, fSl, fIf, fAnd, fOr, fNot, fTru, fAndV, fOrV, fNotV, fNeg, fIsi, fM1, fM2, fRg1, fRg2, fEn, fRev, fSg, fTp, fIt, eIt, eB, eV, eC, frz, shm, aCons, aNil, poN, poS, Rs.d, Rs.sl, vB, List.cons_append, List.nil_append, List.append_nil, List.replicate_zero, List.replicate_succ, List.getElem?_cons_zero, List.getElem?_cons_succ, List.set_cons_zero, List.set_cons_succ, List.length_cons, List.length_nil, opLen, lenD, opList, opAdd, opSub, opMul, opMod, opDiv, opPow, opMin, opMax, opIx, opSl, cmpB, cEq, cNe, cIsN, cNotN, truD, tgN, tgT, setAll, isKd, opFind, opFind3, opStarts, opStarts3, Nat.reduceLT, Nat.reduceAdd, Nat.reduceSub, Nat.reduceLeDiff, Int.reduceLT, Int.reduceLE, Int.reduceNeg, reduceIte, and_self, true_and, and_true, decide_true, decide_false, Int.toNat_natCast, e0, List.getElem?_eq_getElem hk, cNinA, cInA, cNin, cIn, Bool.not_true]
        · refine .inr ⟨by simp [h1, h2], .sh (.int (k : Int)), ?_⟩
          simp (disch := first | omega | assumption) only [if_pos, if_neg, decide_eq_true, decide_eq_false, atI_of, cutL_take, cutL_drop, cutL_mid, ge_iff_le, gt_iff_lt, Int.reduceToNat, Int.toNat_zero, Int.toNat_one, Bool.not_true, Bool.not_false, szl, fMaxD, fEnS, sStuck, fLenS, cGtA, sAppQ, sSetQ, sForT, forTL, opSortT, fDItems, fDKeys, fLcO, D.key, fDNew, fDGet, sDPutV, fDSet, fRg3, fChV, fSortL, frL, frS, fSortB, sRem, sqAt, eIxI, fItm, fItV, chS, sItC, sItA, sItI, sItS, fTmp, Sl.mut, Sl.th, O.d, sqD, D.atm, sTryR, fSq, aConsF, aNilF, eO, sTgF, setFd, Fd.sl, opJoinRev, fLRev, runDef, runDefI, ioAt, insA, chL, getO, setO, getL, setL, obAt, eFd, eFV, eFB, fFld, fMeth, fMethI, fMake, fCallI, aHere, fIsO, sFldS, setF, Rs.fd, Fd.d, O.d, fMethD, chF, sAppF, fPopF, fPop0, fPop1, sIns, sRetI, sRetNI, fZip, fML, opAny, opAll, opSorted, opMaxL, opMinL, opRfind, opCount, List.map_cons, List.map_nil, cInA, cNinA, inD, itD, fItA, eItA, cLtA, cLeA, fRr1, fRr2, opInt, sPar, fCallD, fRaise0, fRaise1, sTryAs, sTry, aftr, noX, allEq_const, fXf, fXi, fLc, lcL, unE, tYs, Vs.ret, xLock, inis, bof, sNil, sSeq, sAsg, sRet, sRetV, sRetN, sIf, sDrop, sTg, sFor, sBrk, sCnt, sApp, sExt, sOwn, sSetI, opSetI, sLock, unlk, sbnd, bnd, fOp, fCh, fCl, fCall, fLst, fTup, fSl, fIf, fAnd, fOr, fNot, fTru, fAndV, fOrV, fNotV, fNeg, fIsi, fM1, fM2, fRg1, fRg2, fEn, fRev, fSg, fTp, fIt, eIt, eB, eV, eC, frz, shm, aCons, aNil, poN, poS, Rs.d, Rs.sl, vB, List.cons_append, List.nil_append, List.append_nil, List.replicate_zero, List.replicate_succ, List.getElem?_cons_zero, List.getElem?_cons_succ, List.set_cons_zero, List.set_cons_succ, List.length_cons, List.length_nil, opLen, lenD, opList, opAdd, opSub, opMul, opMod, opDiv, opPow, opMin, opMax, opIx, opSl, cmpB, cEq, cNe, cIsN, cNotN, truD, tgN, tgT, setAll, isKd, opFind, opFind3, opStarts, opStarts3, Nat.reduceLT, Nat.reduceAdd, Nat.reduceSub, Nat.reduceLeDiff, Int.reduceLT, Int.reduceLE, Int.reduceNeg, reduceIte, and_self, true_and, and_true, decide_true, decide_false, Int.toNat_natCast, e0, List.getElem?_eq_getElem hk, cNinA, cInA, cNin, cIn, Bool.not_true]
      · refine .inl ⟨by simp [h1], .sh (.int (k : Int)), ?_⟩
        simp (disch := first | omega | assumption) only [if_pos, if_neg, decide_eq_true, decide_eq_false, atI_of, cutL_take, cutL_drop, cutL_mid, ge_iff_le, gt_iff_lt, Int.reduceToNat, Int.toNat_zero, Int.toNat_one, Bool.not_true, Bool.not_false, szl, fMaxD, fEnS, sStuck, fLenS, cGtA, sAppQ, sSetQ, sForT, forTL, opSortT, fDItems, fDKeys, fLcO, D.key, fDNew, fDGet, sDPutV, fDSet, fRg3, fChV, fSortL, frL, frS, fSortB, sRem, sqAt, eIxI, fItm, fItV, chS, sItC, sItA, sItI, sItS, fTmp, Sl.mut, Sl.th, O.d, sqD, D.atm, sTryR, fSq, aConsF, aNilF, eO, sTgF, setFd, Fd.sl, opJoinRev, fLRev, runDef, runDefI, ioAt, insA, chL, getO, setO, getL, setL, obAt, eFd, eFV, eFB, fFld, fMeth, fMethI, fMake, fCallI, aHere, fIsO, sFldS, setF, Rs.fd, Fd.d, O.d, fMethD, chF, sAppF, fPopF, fPop0, fPop1, sIns, sRetI, sRetNI, fZip, fML, opAny, opAll, opSorted, opMaxL, opMinL, opRfind, opCount, List.map_cons, List.map_nil, cInA, cNinA, inD, itD, fItA, eItA, cLtA, cLeA, fRr1, fRr2, opInt, sPar, fCallD, fRaise0, fRaise1, sTryAs, sTry, aftr, noX, allEq_const, fXf, fXi, fLc, lcL, unE, tYs, Vs.ret, xLock, inis, bof, sNil, sSeq, sAsg, sRet, sRetV, sRetN, sIf, sDrop, sTg, sFor, sBrk, sCnt, sApp, sExt, sOwn, sSetI, opSetI, sLock, unlk, sbnd, bnd, fOp, fCh, fCl, fCall, fLst, fTup, fSl, fIf, fAnd, fOr, fNot, fTru, fAndV, fOrV, fNotV, fNeg, fIsi, fM1, fM2, fRg1, fRg2, fEn, fRev, fSg, fTp, fIt, eIt, eB, eV, eC, frz, shm, aCons, aNil, poN, poS, Rs.d, Rs.sl, vB, List.cons_append, List.nil_append, List.append_nil, List.replicate_zero, List.replicate_succ, List.getElem?_cons_zero, List.getElem?_cons_succ, List.set_cons_zero, List.set_cons_succ, List.length_cons, List.length_nil, opLen, lenD, opList, opAdd, opSub, opMul, opMod, opDiv, opPow, opMin, opMax, opIx, opSl, cmpB, cEq, cNe, cIsN, cNotN, truD, tgN, tgT, setAll, isKd, opFind, opFind3, opStarts, opStarts3, Nat.reduceLT, Nat.reduceAdd, Nat.reduceSub, Nat.reduceLeDiff, Int.reduceLT, Int.reduceLE, Int.reduceNeg, reduceIte, and_self, true_and, and_true, decide_true, decide_false, Int.toNat_natCast, e0, List.getElem?_eq_getElem hk, cNinA, cInA, cNin, cIn, Bool.not_false]
    rcases forL_findX (tg := tgN 1) (body := l1_letters_of) (fun (x : Sl) => [.sh (.str t), x]) (fun (k : Nat) => D.int (0 + (k : Int))) (badL t) (fun _ => ⟨x_NoLetters, none⟩) (List.range t.length) .un step with ⟨b, h1, h2, j, h3⟩ | ⟨h1, j, h3⟩
    · refine .inr ⟨fun g => ?_, ?_⟩
      · rw [badL_none.mpr ⟨g.2.2.1, g.2.2.2⟩] at h1
        cases h1
      · simp (disch := first | omega | assumption) only [if_pos, if_neg, decide_eq_true, decide_eq_false, atI_of, cutL_take, cutL_drop, cutL_mid, ge_iff_le, gt_iff_lt, Int.reduceToNat, Int.toNat_zero, Int.toNat_one, Bool.not_true, Bool.not_false, szl, fMaxD, fEnS, sStuck, fLenS, cGtA, sAppQ, sSetQ, sForT, forTL, opSortT, fDItems, fDKeys, fLcO, D.key, fDNew, fDGet, sDPutV, fDSet, fRg3, fChV, fSortL, frL, frS, fSortB, sRem, sqAt, eIxI, fItm, fItV, chS, sItC, sItA, sItI, sItS, fTmp, Sl.mut, Sl.th, O.d, sqD, D.atm, sTryR, fSq, aConsF, aNilF, eO, sTgF, setFd, Fd.sl, opJoinRev, fLRev, runDef, runDefI, ioAt, insA, chL, getO, setO, getL, setL, obAt, eFd, eFV, eFB, fFld, fMeth, fMethI, fMake, fCallI, aHere, fIsO, sFldS, setF, Rs.fd, Fd.d, O.d, fMethD, chF, sAppF, fPopF, fPop0, fPop1, sIns, sRetI, sRetNI, fZip, fML, opAny, opAll, opSorted, opMaxL, opMinL, opRfind, opCount, List.map_cons, List.map_nil, cInA, cNinA, inD, itD, fItA, eItA, cLtA, cLeA, fRr1, fRr2, opInt, sPar, fCallD, fRaise0, fRaise1, sTryAs, sTry, aftr, noX, allEq_const, fXf, fXi, fLc, lcL, unE, tYs, Vs.ret, xLock, inis, bof, sNil, sSeq, sAsg, sRet, sRetV, sRetN, sIf, sDrop, sTg, sFor, sBrk, sCnt, sApp, sExt, sOwn, sSetI, opSetI, sLock, unlk, sbnd, bnd, fOp, fCh, fCl, fCall, fLst, fTup, fSl, fIf, fAnd, fOr, fNot, fTru, fAndV, fOrV, fNotV, fNeg, fIsi, fM1, fM2, fRg1, fRg2, fEn, fRev, fSg, fTp, fIt, eIt, eB, eV, eC, frz, shm, aCons, aNil, poN, poS, Rs.d, Rs.sl, vB, List.cons_append, List.nil_append, List.append_nil, List.replicate_zero, List.replicate_succ, List.getElem?_cons_zero, List.getElem?_cons_succ, List.set_cons_zero, List.set_cons_succ, List.length_cons, List.length_nil, opLen, lenD, opList, opAdd, opSub, opMul, opMod, opDiv, opPow, opMin, opMax, opIx, opSl, cmpB, cEq, cNe, cIsN, cNotN, truD, tgN, tgT, setAll, isKd, opFind, opFind3, opStarts, opStarts3, Nat.reduceLT, Nat.reduceAdd, Nat.reduceSub, Nat.reduceLeDiff, Int.reduceLT, Int.reduceLE, Int.reduceNeg, reduceIte, and_self, true_and, and_true, decide_true, decide_false, Int.toNat_natCast, i1, rng, h3]
    · refine .inl ⟨⟨h0.1, h0.2, badL_none.mp h1⟩, ?_⟩
      simp (disch := first | omega | assumption) only [if_pos, if_neg, decide_eq_true, decide_eq_false, atI_of, cutL_take, cutL_drop, cutL_mid, ge_iff_le, gt_iff_lt, Int.reduceToNat, Int.toNat_zero, Int.toNat_one, Bool.not_true, Bool.not_false, szl, fMaxD, fEnS, sStuck, fLenS, cGtA, sAppQ, sSetQ, sForT, forTL, opSortT, fDItems, fDKeys, fLcO, D.key, fDNew, fDGet, sDPutV, fDSet, fRg3, fChV, fSortL, frL, frS, fSortB, sRem, sqAt, eIxI, fItm, fItV, chS, sItC, sItA, sItI, sItS, fTmp, Sl.mut, Sl.th, O.d, sqD, D.atm, sTryR, fSq, aConsF, aNilF, eO, sTgF, setFd, Fd.sl, opJoinRev, fLRev, runDef, runDefI, ioAt, insA, chL, getO, setO, getL, setL, obAt, eFd, eFV, eFB, fFld, fMeth, fMethI, fMake, fCallI, aHere, fIsO, sFldS, setF, Rs.fd, Fd.d, O.d, fMethD, chF, sAppF, fPopF, fPop0, fPop1, sIns, sRetI, sRetNI, fZip, fML, opAny, opAll, opSorted, opMaxL, opMinL, opRfind, opCount, List.map_cons, List.map_nil, cInA, cNinA, inD, itD, fItA, eItA, cLtA, cLeA, fRr1, fRr2, opInt, sPar, fCallD, fRaise0, fRaise1, sTryAs, sTry, aftr, noX, allEq_const, fXf, fXi, fLc, lcL, unE, tYs, Vs.ret, xLock, inis, bof, sNil, sSeq, sAsg, sRet, sRetV, sRetN, sIf, sDrop, sTg, sFor, sBrk, sCnt, sApp, sExt, sOwn, sSetI, opSetI, sLock, unlk, sbnd, bnd, fOp, fCh, fCl, fCall, fLst, fTup, fSl, fIf, fAnd, fOr, fNot, fTru, fAndV, fOrV, fNotV, fNeg, fIsi, fM1, fM2, fRg1, fRg2, fEn, fRev, fSg, fTp, fIt, eIt, eB, eV, eC, frz, shm, aCons, aNil, poN, poS, Rs.d, Rs.sl, vB, List.cons_append, List.nil_append, List.append_nil, List.replicate_zero, List.replicate_succ, List.getElem?_cons_zero, List.getElem?_cons_succ, List.set_cons_zero, List.set_cons_succ, List.length_cons, List.length_nil, opLen, lenD, opList, opAdd, opSub, opMul, opMod, opDiv, opPow, opMin, opMax, opIx, opSl, cmpB, cEq, cNe, cIsN, cNotN, truD, tgN, tgT, setAll, isKd, opFind, opFind3, opStarts, opStarts3, Nat.reduceLT, Nat.reduceAdd, Nat.reduceSub, Nat.reduceLeDiff, Int.reduceLT, Int.reduceLE, Int.reduceNeg, reduceIte, and_self, true_and, and_true, decide_true, decide_false, Int.toNat_natCast, i1, rng, h3]
  · refine .inr ⟨fun g => h0 ⟨g.1, g.2.1⟩, ?_⟩
    have i1 : ∀ s, i1_letters_of [.sh (.str t), s] = some (.ex ⟨x_NoLetters, none⟩ [.sh (.str t), s]) := fun s => by
      unfold i1_letters_of
      by_cases h1 : 1 ≤ t.length
      · simp (disch := first | omega | assumption) only [if_pos, if_neg, decide_eq_true, decide_eq_false, atI_of, cutL_take, cutL_drop, cutL_mid, ge_iff_le, gt_iff_lt, Int.reduceToNat, Int.toNat_zero, Int.toNat_one, Bool.not_true, Bool.not_false, szl, fMaxD, fEnS, sStuck, fLenS, cGtA, sAppQ, sSetQ, sForT, forTL, opSortT, fDItems, fDKeys, fLcO, D.key, fDNew, fDGet, sDPutV, fDSet, fRg3, fChV, fSortL, frL, frS, fSortB, sRem, sqAt, eIxI, fItm, fItV, chS, sItC, sItA, sItI, sItS, fTmp, Sl.mut, Sl.th, O.d, sqD, D.atm, sTryR, fSq, aConsF, aNilF, eO, sTgF, setFd, Fd.sl, opJoinRev, fLRev, runDef, runDefI, ioAt, insA, chL, getO, setO, getL, setL, obAt, eFd, eFV, eFB, fFld, fMeth, fMethI, fMake, fCallI, aHere, fIsO, sFldS, setF, Rs.fd, Fd.d, O.d, fMethD, chF, sAppF, fPopF, fPop0, fPop1, sIns, sRetI, sRetNI, fZip, fML, opAny, opAll, opSorted, opMaxL, opMinL, opRfind, opCount, List.map_cons, List.map_nil, cInA, cNinA, inD, itD, fItA, eItA, cLtA, cLeA, fRr1, fRr2, opInt, sPar, fCallD, fRaise0, fRaise1, sTryAs, sTry, aftr, noX, allEq_const, fXf, fXi, fLc, lcL, unE, tYs, Vs.ret, xLock, inis, bof, sNil, sSeq, sAsg, sRet, sRetV, sRetN, sIf, sDrop, sTg, sFor, sBrk, sCnt, sApp, sExt, sOwn, sSetI, opSetI, sLock, unlk, sbnd, bnd, fOp, fCh, fCl, fCall, fLst, fTup, fSl, fIf, fAnd, fOr, fNot, fTru, fAndV, fOrV, fNotV, fNeg, fIsi, fM1, fM2, fRg1, fRg2, fEn, fRev, fSg, fTp, fIt, eIt, eB, eV, eC, frz, shm, aCons, aNil, poN, poS, Rs.d, Rs.sl, vB, List.cons_append, List.nil_append, List.append_nil, List.replicate_zero, List.replicate_succ, List.getElem?_cons_zero, List.getElem?_cons_succ, List.set_cons_zero, List.set_cons_succ, List.length_cons, List.length_nil, opLen, lenD, opList, opAdd, opSub, opMul, opMod, opDiv, opPow, opMin, opMax, opIx, opSl, cmpB, cEq, cNe, cIsN, cNotN, truD, tgN, tgT, setAll, isKd, opFind, opFind3, opStarts, opStarts3, Nat.reduceLT, Nat.reduceAdd, Nat.reduceSub, Nat.reduceLeDiff, Int.reduceLT, Int.reduceLE, Int.reduceNeg, reduceIte, and_self, true_and, and_true, decide_true, decide_false, Int.toNat_natCast]
      · simp (disch := first | omega | assumption) only [if_pos, if_neg, decide_eq_true, decide_eq_false, atI_of, cutL_take, cutL_drop, cutL_mid, ge_iff_le, gt_iff_lt, Int.reduceToNat, Int.toNat_zero, Int.toNat_one, Bool.not_true, Bool.not_false, szl, fMaxD, fEnS, sStuck, fLenS, cGtA, sAppQ, sSetQ, sForT, forTL, opSortT, fDItems, fDKeys, fLcO, D.key, fDNew, fDGet, sDPutV, fDSet, fRg3, fChV, fSortL, frL, frS, fSortB, sRem, sqAt, eIxI, fItm, fItV, chS, sItC, sItA, sItI, sItS, fTmp, Sl.mut, Sl.th, O.d, sqD, D.atm, sTryR, fSq, aConsF, aNilF, eO, sTgF, setFd, Fd.sl, opJoinRev, fLRev, runDef, runDefI, ioAt, insA, chL, getO, setO, getL, setL, obAt, eFd, eFV, eFB, fFld, fMeth, fMethI, fMake, fCallI, aHere, fIsO, sFldS, setF, Rs.fd, Fd.d, O.d, fMethD, chF, sAppF, fPopF, fPop0, fPop1, sIns, sRetI, sRetNI, fZip, fML, opAny, opAll, opSorted, opMaxL, opMinL, opRfind, opCount, List.map_cons, List.map_nil, cInA, cNinA, inD, itD, fItA, eItA, cLtA, cLeA, fRr1, fRr2, opInt, sPar, fCallD, fRaise0, fRaise1, sTryAs, sTry, aftr, noX, allEq_const, fXf, fXi, fLc, lcL, unE, tYs, Vs.ret, xLock, inis, bof, sNil, sSeq, sAsg, sRet, sRetV, sRetN, sIf, sDrop, sTg, sFor, sBrk, sCnt, sApp, sExt, sOwn, sSetI, opSetI, sLock, unlk, sbnd, bnd, fOp, fCh, fCl, fCall, fLst, fTup, fSl, fIf, fAnd, fOr, fNot, fTru, fAndV, fOrV, fNotV, fNeg, fIsi, fM1, fM2, fRg1, fRg2, fEn, fRev, fSg, fTp, fIt, eIt, eB, eV, eC, frz, shm, aCons, aNil, poN, poS, Rs.d, Rs.sl, vB, List.cons_append, List.nil_append, List.append_nil, List.replicate_zero, List.replicate_succ, List.getElem?_cons_zero, List.getElem?_cons_succ, List.set_cons_zero, List.set_cons_succ, List.length_cons, List.length_nil, opLen, lenD, opList, opAdd, opSub, opMul, opMod, opDiv, opPow, opMin, opMax, opIx, opSl, cmpB, cEq, cNe, cIsN, cNotN, truD, tgN, tgT, setAll, isKd, opFind, opFind3, opStarts, opStarts3, Nat.reduceLT, Nat.reduceAdd, Nat.reduceSub, Nat.reduceLeDiff, Int.reduceLT, Int.reduceLE, Int.reduceNeg, reduceIte, and_self, true_and, and_true, decide_true, decide_false, Int.toNat_natCast]
    simp (disch := first | omega | assumption) only [if_pos, if_neg, decide_eq_true, decide_eq_false, atI_of, cutL_take, cutL_drop, cutL_mid, ge_iff_le, gt_iff_lt, Int.reduceToNat, Int.toNat_zero, Int.toNat_one, Bool.not_true, Bool.not_false, szl, fMaxD, fEnS, sStuck, fLenS, cGtA, sAppQ, sSetQ, sForT, forTL, opSortT, fDItems, fDKeys, fLcO, D.key, fDNew, fDGet, sDPutV, fDSet, fRg3, fChV, fSortL, frL, frS, fSortB, sRem, sqAt, eIxI, fItm, fItV, chS, sItC, sItA, sItI, sItS, fTmp, Sl.mut, Sl.th, O.d, sqD, D.atm, sTryR, fSq, aConsF, aNilF, eO, sTgF, setFd, Fd.sl, opJoinRev, fLRev, runDef, runDefI, ioAt, insA, chL, getO, setO, getL, setL, obAt, eFd, eFV, eFB, fFld, fMeth, fMethI, fMake, fCallI, aHere, fIsO, sFldS, setF, Rs.fd, Fd.d, O.d, fMethD, chF, sAppF, fPopF, fPop0, fPop1, sIns, sRetI, sRetNI, fZip, fML, opAny, opAll, opSorted, opMaxL, opMinL, opRfind, opCount, List.map_cons, List.map_nil, cInA, cNinA, inD, itD, fItA, eItA, cLtA, cLeA, fRr1, fRr2, opInt, sPar, fCallD, fRaise0, fRaise1, sTryAs, sTry, aftr, noX, allEq_const, fXf, fXi, fLc, lcL, unE, tYs, Vs.ret, xLock, inis, bof, sNil, sSeq, sAsg, sRet, sRetV, sRetN, sIf, sDrop, sTg, sFor, sBrk, sCnt, sApp, sExt, sOwn, sSetI, opSetI, sLock, unlk, sbnd, bnd, fOp, fCh, fCl, fCall, fLst, fTup, fSl, fIf, fAnd, fOr, fNot, fTru, fAndV, fOrV, fNotV, fNeg, fIsi, fM1, fM2, fRg1, fRg2, fEn, fRev, fSg, fTp, fIt, eIt, eB, eV, eC, frz, shm, aCons, aNil, poN, poS, Rs.d, Rs.sl, vB, List.cons_append, List.nil_append, List.append_nil, List.replicate_zero, List.replicate_succ, List.getElem?_cons_zero, List.getElem?_cons_succ, List.set_cons_zero, List.set_cons_succ, List.length_cons, List.length_nil, opLen, lenD, opList, opAdd, opSub, opMul, opMod, opDiv, opPow, opMin, opMax, opIx, opSl, cmpB, cEq, cNe, cIsN, cNotN, truD, tgN, tgT, setAll, isKd, opFind, opFind3, opStarts, opStarts3, Nat.reduceLT, Nat.reduceAdd, Nat.reduceSub, Nat.reduceLeDiff, Int.reduceLT, Int.reduceLE, Int.reduceNeg, reduceIte, and_self, true_and, and_true, decide_true, decide_false, Int.toNat_natCast, i1]

theorem e_letters_ok {L : List Nat} (h : Lts L) (h1 : 1 ≤ L.length) (h2 : L.length ≤ 6) : g_letters_of [.str L] = some (.rt (.sh (.str L))) := by
  rcases e_letters_of L (by omega) with ⟨_, h3⟩ | ⟨h3, _⟩
  · exact h3
  · exact absurd ⟨h1, h2, h.nd, h.lo⟩ h3

/-! World -/
/-- the object -/
def wob (L : List Nat) (T : List (List Nat)) : D := .ob 0 [.str L, .lst (tabD T)]
theorem e_is_table {T : List (List Nat)} {L : List Nat} {n : Nat} (h : Tb T n L.length) (h1 : 1 ≤ n) (h8 : n ≤ 8) (hL : L.length ≤ 1000) : g_is_table [.str L, .lst (tabD T)] = some (.rt (.sh (.bl true))) := by
  unfold g_is_table b_is_table
  have hl := h.len
  have i1 : ∀ s t, i1_is_table [.sh (.str L), .bo (tabD T), s, t] = some (.nx [.sh (.str L), .bo (tabD T), s, t]) := fun s t => by
    unfold i1_is_table
    simp (disch := first | omega | assumption) only [if_pos, if_neg, decide_eq_true, decide_eq_false, atI_of, cutL_take, cutL_drop, cutL_mid, ge_iff_le, gt_iff_lt, Int.reduceToNat, Int.toNat_zero, Int.toNat_one, Bool.not_true, Bool.not_false, szl, fMaxD, fEnS, sStuck, fLenS, cGtA, sAppQ, sSetQ, sForT, forTL, opSortT, fDItems, fDKeys, fLcO, D.key, fDNew, fDGet, sDPutV, fDSet, fRg3, fChV, fSortL, frL, frS, fSortB, sRem, sqAt, eIxI, fItm, fItV, chS, sItC, sItA, sItI, sItS, fTmp, Sl.mut, Sl.th, O.d, sqD, D.atm, sTryR, fSq, aConsF, aNilF, eO, sTgF, setFd, Fd.sl, opJoinRev, fLRev, runDef, runDefI, ioAt, insA, chL, getO, setO, getL, setL, obAt, eFd, eFV, eFB, fFld, fMeth, fMethI, fMake, fCallI, aHere, fIsO, sFldS, setF, Rs.fd, Fd.d, O.d, fMethD, chF, sAppF, fPopF, fPop0, fPop1, sIns, sRetI, sRetNI, fZip, fML, opAny, opAll, opSorted, opMaxL, opMinL, opRfind, opCount, List.map_cons, List.map_nil, cInA, cNinA, inD, itD, fItA, eItA, cLtA, cLeA, fRr1, fRr2, opInt, sPar, fCallD, fRaise0, fRaise1, sTryAs, sTry, aftr, noX, allEq_const, fXf, fXi, fLc, lcL, unE, tYs, Vs.ret, xLock, inis, bof, sNil, sSeq, sAsg, sRet, sRetV, sRetN, sIf, sDrop, sTg, sFor, sBrk, sCnt, sApp, sExt, sOwn, sSetI, opSetI, sLock, unlk, sbnd, bnd, fOp, fCh, fCl, fCall, fLst, fTup, fSl, fIf, fAnd, fOr, fNot, fTru, fAndV, fOrV, fNotV, fNeg, fIsi, fM1, fM2, fRg1, fRg2, fEn, fRev, fSg, fTp, fIt, eIt, eB, eV, eC, frz, shm, aCons, aNil, poN, poS, Rs.d, Rs.sl, vB, List.cons_append, List.nil_append, List.append_nil, List.replicate_zero, List.replicate_succ, List.getElem?_cons_zero, List.getElem?_cons_succ, List.set_cons_zero, List.set_cons_succ, List.length_cons, List.length_nil, opLen, lenD, opList, opAdd, opSub, opMul, opMod, opDiv, opPow, opMin, opMax, opIx, opSl, cmpB, cEq, cNe, cIsN, cNotN, truD, tgN, tgT, setAll, isKd, opFind, opFind3, opStarts, opStarts3, Nat.reduceLT, Nat.reduceAdd, Nat.reduceSub, Nat.reduceLeDiff, Int.reduceLT, Int.reduceLE, Int.reduceNeg, reduceIte, and_self, true_and, and_true, decide_true, decide_false, Int.toNat_natCast, tabD_len]
  obtain ⟨j, h3, _⟩ := forL_fold (tg := tgN 2) (body := l2_is_table) (fun (_ : Unit) (x : Sl × Sl) => [.sh (.str L), .bo (tabD T), x.1, x.2]) (fun r => D.lst (nD r)) (fun _ _ => ()) (fun _ => True) T () (.un, .un) trivial fun r hr _ x _ => by
    obtain ⟨g1, g2⟩ := h.row r hr
    refine ⟨_, rfl, ?_⟩
    unfold l2_is_table i2_is_table
    obtain ⟨j, h3, _⟩ := forL_fold (tg := tgN 3) (body := l1_is_table) (fun (_ : Unit) (x : Sl) => [.sh (.str L), .bo (tabD T), .sh (.lst (nD r)), x]) (fun (n : Nat) => D.int (n : Int)) (fun _ _ => ()) (fun _ => True) r () x.2 trivial fun c hc _ x _ => by
      refine ⟨_, rfl, .sh (.int (c : Int)), ?_, trivial⟩
      have := g2 c hc
      unfold l1_is_table i3_is_table
      simp (disch := first | omega | assumption) only [if_pos, if_neg, decide_eq_true, decide_eq_false, atI_of, cutL_take, cutL_drop, cutL_mid, ge_iff_le, gt_iff_lt, Int.reduceToNat, Int.toNat_zero, Int.toNat_one, Bool.not_true, Bool.not_false, szl, fMaxD, fEnS, sStuck, fLenS, cGtA, sAppQ, sSetQ, sForT, forTL, opSortT, fDItems, fDKeys, fLcO, D.key, fDNew, fDGet, sDPutV, fDSet, fRg3, fChV, fSortL, frL, frS, fSortB, sRem, sqAt, eIxI, fItm, fItV, chS, sItC, sItA, sItI, sItS, fTmp, Sl.mut, Sl.th, O.d, sqD, D.atm, sTryR, fSq, aConsF, aNilF, eO, sTgF, setFd, Fd.sl, opJoinRev, fLRev, runDef, runDefI, ioAt, insA, chL, getO, setO, getL, setL, obAt, eFd, eFV, eFB, fFld, fMeth, fMethI, fMake, fCallI, aHere, fIsO, sFldS, setF, Rs.fd, Fd.d, O.d, fMethD, chF, sAppF, fPopF, fPop0, fPop1, sIns, sRetI, sRetNI, fZip, fML, opAny, opAll, opSorted, opMaxL, opMinL, opRfind, opCount, List.map_cons, List.map_nil, cInA, cNinA, inD, itD, fItA, eItA, cLtA, cLeA, fRr1, fRr2, opInt, sPar, fCallD, fRaise0, fRaise1, sTryAs, sTry, aftr, noX, allEq_const, fXf, fXi, fLc, lcL, unE, tYs, Vs.ret, xLock, inis, bof, sNil, sSeq, sAsg, sRet, sRetV, sRetN, sIf, sDrop, sTg, sFor, sBrk, sCnt, sApp, sExt, sOwn, sSetI, opSetI, sLock, unlk, sbnd, bnd, fOp, fCh, fCl, fCall, fLst, fTup, fSl, fIf, fAnd, fOr, fNot, fTru, fAndV, fOrV, fNotV, fNeg, fIsi, fM1, fM2, fRg1, fRg2, fEn, fRev, fSg, fTp, fIt, eIt, eB, eV, eC, frz, shm, aCons, aNil, poN, poS, Rs.d, Rs.sl, vB, List.cons_append, List.nil_append, List.append_nil, List.replicate_zero, List.replicate_succ, List.getElem?_cons_zero, List.getElem?_cons_succ, List.set_cons_zero, List.set_cons_succ, List.length_cons, List.length_nil, opLen, lenD, opList, opAdd, opSub, opMul, opMod, opDiv, opPow, opMin, opMax, opIx, opSl, cmpB, cEq, cNe, cIsN, cNotN, truD, tgN, tgT, setAll, isKd, opFind, opFind3, opStarts, opStarts3, Nat.reduceLT, Nat.reduceAdd, Nat.reduceSub, Nat.reduceLeDiff, Int.reduceLT, Int.reduceLE, Int.reduceNeg, reduceIte, and_self, true_and, and_true, decide_true, decide_false, Int.toNat_natCast, tabD_len]
    refine ⟨(.sh (.lst (nD r)), j), ?_, trivial⟩
    have h3' : forL (tgN 3) l1_is_table (nD r) [.sh (.str L), .bo (tabD T), .sh (.lst (nD r)), x.2] = _ := h3
    simp (disch := first | omega | assumption) only [if_pos, if_neg, decide_eq_true, decide_eq_false, atI_of, cutL_take, cutL_drop, cutL_mid, ge_iff_le, gt_iff_lt, Int.reduceToNat, Int.toNat_zero, Int.toNat_one, Bool.not_true, Bool.not_false, szl, fMaxD, fEnS, sStuck, fLenS, cGtA, sAppQ, sSetQ, sForT, forTL, opSortT, fDItems, fDKeys, fLcO, D.key, fDNew, fDGet, sDPutV, fDSet, fRg3, fChV, fSortL, frL, frS, fSortB, sRem, sqAt, eIxI, fItm, fItV, chS, sItC, sItA, sItI, sItS, fTmp, Sl.mut, Sl.th, O.d, sqD, D.atm, sTryR, fSq, aConsF, aNilF, eO, sTgF, setFd, Fd.sl, opJoinRev, fLRev, runDef, runDefI, ioAt, insA, chL, getO, setO, getL, setL, obAt, eFd, eFV, eFB, fFld, fMeth, fMethI, fMake, fCallI, aHere, fIsO, sFldS, setF, Rs.fd, Fd.d, O.d, fMethD, chF, sAppF, fPopF, fPop0, fPop1, sIns, sRetI, sRetNI, fZip, fML, opAny, opAll, opSorted, opMaxL, opMinL, opRfind, opCount, List.map_cons, List.map_nil, cInA, cNinA, inD, itD, fItA, eItA, cLtA, cLeA, fRr1, fRr2, opInt, sPar, fCallD, fRaise0, fRaise1, sTryAs, sTry, aftr, noX, allEq_const, fXf, fXi, fLc, lcL, unE, tYs, Vs.ret, xLock, inis, bof, sNil, sSeq, sAsg, sRet, sRetV, sRetN, sIf, sDrop, sTg, sFor, sBrk, sCnt, sApp, sExt, sOwn, sSetI, opSetI, sLock, unlk, sbnd, bnd, fOp, fCh, fCl, fCall, fLst, fTup, fSl, fIf, fAnd, fOr, fNot, fTru, fAndV, fOrV, fNotV, fNeg, fIsi, fM1, fM2, fRg1, fRg2, fEn, fRev, fSg, fTp, fIt, eIt, eB, eV, eC, frz, shm, aCons, aNil, poN, poS, Rs.d, Rs.sl, vB, List.cons_append, List.nil_append, List.append_nil, List.replicate_zero, List.replicate_succ, List.getElem?_cons_zero, List.getElem?_cons_succ, List.set_cons_zero, List.set_cons_succ, List.length_cons, List.length_nil, opLen, lenD, opList, opAdd, opSub, opMul, opMod, opDiv, opPow, opMin, opMax, opIx, opSl, cmpB, cEq, cNe, cIsN, cNotN, truD, tgN, tgT, setAll, isKd, opFind, opFind3, opStarts, opStarts3, Nat.reduceLT, Nat.reduceAdd, Nat.reduceSub, Nat.reduceLeDiff, Int.reduceLT, Int.reduceLE, Int.reduceNeg, reduceIte, and_self, true_and, and_true, decide_true, decide_false, Int.toNat_natCast, nD_len, itD, g1, h3']
  have h3' : forL (tgN 2) l2_is_table (tabD T) [.sh (.str L), .bo (tabD T), .un, .un] = _ := h3
  simp (disch := first | omega | assumption) only [if_pos, if_neg, decide_eq_true, decide_eq_false, atI_of, cutL_take, cutL_drop, cutL_mid, ge_iff_le, gt_iff_lt, Int.reduceToNat, Int.toNat_zero, Int.toNat_one, Bool.not_true, Bool.not_false, szl, fMaxD, fEnS, sStuck, fLenS, cGtA, sAppQ, sSetQ, sForT, forTL, opSortT, fDItems, fDKeys, fLcO, D.key, fDNew, fDGet, sDPutV, fDSet, fRg3, fChV, fSortL, frL, frS, fSortB, sRem, sqAt, eIxI, fItm, fItV, chS, sItC, sItA, sItI, sItS, fTmp, Sl.mut, Sl.th, O.d, sqD, D.atm, sTryR, fSq, aConsF, aNilF, eO, sTgF, setFd, Fd.sl, opJoinRev, fLRev, runDef, runDefI, ioAt, insA, chL, getO, setO, getL, setL, obAt, eFd, eFV, eFB, fFld, fMeth, fMethI, fMake, fCallI, aHere, fIsO, sFldS, setF, Rs.fd, Fd.d, O.d, fMethD, chF, sAppF, fPopF, fPop0, fPop1, sIns, sRetI, sRetNI, fZip, fML, opAny, opAll, opSorted, opMaxL, opMinL, opRfind, opCount, List.map_cons, List.map_nil, cInA, cNinA, inD, itD, fItA, eItA, cLtA, cLeA, fRr1, fRr2, opInt, sPar, fCallD, fRaise0, fRaise1, sTryAs, sTry, aftr, noX, allEq_const, fXf, fXi, fLc, lcL, unE, tYs, Vs.ret, xLock, inis, bof, sNil, sSeq, sAsg, sRet, sRetV, sRetN, sIf, sDrop, sTg, sFor, sBrk, sCnt, sApp, sExt, sOwn, sSetI, opSetI, sLock, unlk, sbnd, bnd, fOp, fCh, fCl, fCall, fLst, fTup, fSl, fIf, fAnd, fOr, fNot, fTru, fAndV, fOrV, fNotV, fNeg, fIsi, fM1, fM2, fRg1, fRg2, fEn, fRev, fSg, fTp, fIt, eIt, eB, eV, eC, frz, shm, aCons, aNil, poN, poS, Rs.d, Rs.sl, vB, List.cons_append, List.nil_append, List.append_nil, List.replicate_zero, List.replicate_succ, List.getElem?_cons_zero, List.getElem?_cons_succ, List.set_cons_zero, List.set_cons_succ, List.length_cons, List.length_nil, opLen, lenD, opList, opAdd, opSub, opMul, opMod, opDiv, opPow, opMin, opMax, opIx, opSl, cmpB, cEq, cNe, cIsN, cNotN, truD, tgN, tgT, setAll, isKd, opFind, opFind3, opStarts, opStarts3, Nat.reduceLT, Nat.reduceAdd, Nat.reduceSub, Nat.reduceLeDiff, Int.reduceLT, Int.reduceLE, Int.reduceNeg, reduceIte, and_self, true_and, and_true, decide_true, decide_false, Int.toNat_natCast, i1, h3']
theorem e_World_init {T : List (List Nat)} {L : List Nat} {n : Nat} (h : Tb T n L.length) (h1 : 1 ≤ n) (h8 : n ≤ 8) (hL : Lts L) (hL1 : 1 ≤ L.length) (hL6 : L.length ≤ 6) : g_World_init (.ob 0 []) [.str L, .lst (tabD T)] = some (.rt (.sh .non) (.ob 0 [.sh (.str L), .sh (.lst (tabD T))])) := by
  unfold g_World_init b_World_init
  have e1 := e_letters_ok hL hL1 hL6
  have e2 := e_is_table h h1 h8 (by omega)
  have hl := h.len
  obtain ⟨j, e3⟩ := lcL_fun (f := tgN 3) (te := frz (fCl opList (aCons (eB 3) aNil))) (vs := [3]) (fun (_ : Unit) => [.io (.ob 0 [.sh (.str L)]), .sh (.str L), .bo (tabD T), .un]) (fun r => D.lst (nD r)) (fun r => D.lst (nD r)) T [] () fun r hr _ => ⟨_, rfl, _, rfl, (), rfl⟩
  have e3' : lcL (tgN 3) tYs (frz (fCl opList (aCons (eB 3) aNil))) [3] (tabD T) [] [.io (.ob 0 [.sh (.str L)]), .sh (.str L), .bo (tabD T), .un] = some (.ok (.ow (tabD T)) [.io (.ob 0 [.sh (.str L)]), .sh (.str L), .bo (tabD T), .un]) := e3
  have i1 : i1_World_init [.io (.ob 0 [.sh (.str L)]), .sh (.str L), .bo (tabD T), .un] = some (.nx [.io (.ob 0 [.sh (.str L)]), .sh (.str L), .bo (tabD T), .un]) := by
    unfold i1_World_init
    simp (disch := first | omega | assumption) only [if_pos, if_neg, decide_eq_true, decide_eq_false, atI_of, cutL_take, cutL_drop, cutL_mid, ge_iff_le, gt_iff_lt, Int.reduceToNat, Int.toNat_zero, Int.toNat_one, Bool.not_true, Bool.not_false, szl, fMaxD, fEnS, sStuck, fLenS, cGtA, sAppQ, sSetQ, sForT, forTL, opSortT, fDItems, fDKeys, fLcO, D.key, fDNew, fDGet, sDPutV, fDSet, fRg3, fChV, fSortL, frL, frS, fSortB, sRem, sqAt, eIxI, fItm, fItV, chS, sItC, sItA, sItI, sItS, fTmp, Sl.mut, Sl.th, O.d, sqD, D.atm, sTryR, fSq, aConsF, aNilF, eO, sTgF, setFd, Fd.sl, opJoinRev, fLRev, runDef, runDefI, ioAt, insA, chL, getO, setO, getL, setL, obAt, eFd, eFV, eFB, fFld, fMeth, fMethI, fMake, fCallI, aHere, fIsO, sFldS, setF, Rs.fd, Fd.d, O.d, fMethD, chF, sAppF, fPopF, fPop0, fPop1, sIns, sRetI, sRetNI, fZip, fML, opAny, opAll, opSorted, opMaxL, opMinL, opRfind, opCount, List.map_cons, List.map_nil, cInA, cNinA, inD, itD, fItA, eItA, cLtA, cLeA, fRr1, fRr2, opInt, sPar, fCallD, fRaise0, fRaise1, sTryAs, sTry, aftr, noX, allEq_const, fXf, fXi, fLc, lcL, unE, tYs, Vs.ret, xLock, inis, bof, sNil, sSeq, sAsg, sRet, sRetV, sRetN, sIf, sDrop, sTg, sFor, sBrk, sCnt, sApp, sExt, sOwn, sSetI, opSetI, sLock, unlk, sbnd, bnd, fOp, fCh, fCl, fCall, fLst, fTup, fSl, fIf, fAnd, fOr, fNot, fTru, fAndV, fOrV, fNotV, fNeg, fIsi, fM1, fM2, fRg1, fRg2, fEn, fRev, fSg, fTp, fIt, eIt, eB, eV, eC, frz, shm, aCons, aNil, poN, poS, Rs.d, Rs.sl, vB, List.cons_append, List.nil_append, List.append_nil, List.replicate_zero, List.replicate_succ, List.getElem?_cons_zero, List.getElem?_cons_succ, List.set_cons_zero, List.set_cons_succ, List.length_cons, List.length_nil, opLen, lenD, opList, opAdd, opSub, opMul, opMod, opDiv, opPow, opMin, opMax, opIx, opSl, cmpB, cEq, cNe, cIsN, cNotN, truD, tgN, tgT, setAll, isKd, opFind, opFind3, opStarts, opStarts3, Nat.reduceLT, Nat.reduceAdd, Nat.reduceSub, Nat.reduceLeDiff, Int.reduceLT, Int.reduceLE, Int.reduceNeg, reduceIte, and_self, true_and, and_true, decide_true, decide_false, Int.toNat_natCast, e2, Bool.not_true]
  simp (disch := first | omega | assumption) only [if_pos, if_neg, decide_eq_true, decide_eq_false, atI_of, cutL_take, cutL_drop, cutL_mid, ge_iff_le, gt_iff_lt, Int.reduceToNat, Int.toNat_zero, Int.toNat_one, Bool.not_true, Bool.not_false, szl, fMaxD, fEnS, sStuck, fLenS, cGtA, sAppQ, sSetQ, sForT, forTL, opSortT, fDItems, fDKeys, fLcO, D.key, fDNew, fDGet, sDPutV, fDSet, fRg3, fChV, fSortL, frL, frS, fSortB, sRem, sqAt, eIxI, fItm, fItV, chS, sItC, sItA, sItI, sItS, fTmp, Sl.mut, Sl.th, O.d, sqD, D.atm, sTryR, fSq, aConsF, aNilF, eO, sTgF, setFd, Fd.sl, opJoinRev, fLRev, runDef, runDefI, ioAt, insA, chL, getO, setO, getL, setL, obAt, eFd, eFV, eFB, fFld, fMeth, fMethI, fMake, fCallI, aHere, fIsO, sFldS, setF, Rs.fd, Fd.d, O.d, fMethD, chF, sAppF, fPopF, fPop0, fPop1, sIns, sRetI, sRetNI, fZip, fML, opAny, opAll, opSorted, opMaxL, opMinL, opRfind, opCount, List.map_cons, List.map_nil, cInA, cNinA, inD, itD, fItA, eItA, cLtA, cLeA, fRr1, fRr2, opInt, sPar, fCallD, fRaise0, fRaise1, sTryAs, sTry, aftr, noX, allEq_const, fXf, fXi, fLc, lcL, unE, tYs, Vs.ret, xLock, inis, bof, sNil, sSeq, sAsg, sRet, sRetV, sRetN, sIf, sDrop, sTg, sFor, sBrk, sCnt, sApp, sExt, sOwn, sSetI, opSetI, sLock, unlk, sbnd, bnd, fOp, fCh, fCl, fCall, fLst, fTup, fSl, fIf, fAnd, fOr, fNot, fTru, fAndV, fOrV, fNotV, fNeg, fIsi, fM1, fM2, fRg1, fRg2, fEn, fRev, fSg, fTp, fIt, eIt, eB, eV, eC, frz, shm, aCons, aNil, poN, poS, Rs.d, Rs.sl, vB, List.cons_append, List.nil_append, List.append_nil, List.replicate_zero, List.replicate_succ, List.getElem?_cons_zero, List.getElem?_cons_succ, List.set_cons_zero, List.set_cons_succ, List.length_cons, List.length_nil, opLen, lenD, opList, opAdd, opSub, opMul, opMod, opDiv, opPow, opMin, opMax, opIx, opSl, cmpB, cEq, cNe, cIsN, cNotN, truD, tgN, tgT, setAll, isKd, opFind, opFind3, opStarts, opStarts3, Nat.reduceLT, Nat.reduceAdd, Nat.reduceSub, Nat.reduceLeDiff, Int.reduceLT, Int.reduceLE, Int.reduceNeg, reduceIte, and_self, true_and, and_true, decide_true, decide_false, Int.toNat_natCast] at e3'
  simp (disch := first | omega | assumption) only [if_pos, if_neg, decide_eq_true, decide_eq_false, atI_of, cutL_take, cutL_drop, cutL_mid, ge_iff_le, gt_iff_lt, Int.reduceToNat, Int.toNat_zero, Int.toNat_one, Bool.not_true, Bool.not_false, szl, fMaxD, fEnS, sStuck, fLenS, cGtA, sAppQ, sSetQ, sForT, forTL, opSortT, fDItems, fDKeys, fLcO, D.key, fDNew, fDGet, sDPutV, fDSet, fRg3, fChV, fSortL, frL, frS, fSortB, sRem, sqAt, eIxI, fItm, fItV, chS, sItC, sItA, sItI, sItS, fTmp, Sl.mut, Sl.th, O.d, sqD, D.atm, sTryR, fSq, aConsF, aNilF, eO, sTgF, setFd, Fd.sl, opJoinRev, fLRev, runDef, runDefI, ioAt, insA, chL, getO, setO, getL, setL, obAt, eFd, eFV, eFB, fFld, fMeth, fMethI, fMake, fCallI, aHere, fIsO, sFldS, setF, Rs.fd, Fd.d, O.d, fMethD, chF, sAppF, fPopF, fPop0, fPop1, sIns, sRetI, sRetNI, fZip, fML, opAny, opAll, opSorted, opMaxL, opMinL, opRfind, opCount, List.map_cons, List.map_nil, cInA, cNinA, inD, itD, fItA, eItA, cLtA, cLeA, fRr1, fRr2, opInt, sPar, fCallD, fRaise0, fRaise1, sTryAs, sTry, aftr, noX, allEq_const, fXf, fXi, fLc, lcL, unE, tYs, Vs.ret, xLock, inis, bof, sNil, sSeq, sAsg, sRet, sRetV, sRetN, sIf, sDrop, sTg, sFor, sBrk, sCnt, sApp, sExt, sOwn, sSetI, opSetI, sLock, unlk, sbnd, bnd, fOp, fCh, fCl, fCall, fLst, fTup, fSl, fIf, fAnd, fOr, fNot, fTru, fAndV, fOrV, fNotV, fNeg, fIsi, fM1, fM2, fRg1, fRg2, fEn, fRev, fSg, fTp, fIt, eIt, eB, eV, eC, frz, shm, aCons, aNil, poN, poS, Rs.d, Rs.sl, vB, List.cons_append, List.nil_append, List.append_nil, List.replicate_zero, List.replicate_succ, List.getElem?_cons_zero, List.getElem?_cons_succ, List.set_cons_zero, List.set_cons_succ, List.length_cons, List.length_nil, opLen, lenD, opList, opAdd, opSub, opMul, opMod, opDiv, opPow, opMin, opMax, opIx, opSl, cmpB, cEq, cNe, cIsN, cNotN, truD, tgN, tgT, setAll, isKd, opFind, opFind3, opStarts, opStarts3, Nat.reduceLT, Nat.reduceAdd, Nat.reduceSub, Nat.reduceLeDiff, Int.reduceLT, Int.reduceLE, Int.reduceNeg, reduceIte, and_self, true_and, and_true, decide_true, decide_false, Int.toNat_natCast, e1, fld_letters, fld_table, i1, eItA, tabD_len, hl, e3']
theorem e_led {T : List (List Nat)} {L w : List Nat} {n r : Nat} (h : Tb T n L.length) (hr : r < n) (hw : ∀ c ∈ w, c ∈ L) : g_World_led [wob L T, .int (r : Int), .str w] = some (.rt (.sh (.int (led T L r w : Nat)))) := by
  unfold g_World_led b_World_led wob
  simp (disch := first | omega | assumption) only [if_pos, if_neg, decide_eq_true, decide_eq_false, atI_of, cutL_take, cutL_drop, cutL_mid, ge_iff_le, gt_iff_lt, Int.reduceToNat, Int.toNat_zero, Int.toNat_one, Bool.not_true, Bool.not_false, szl, fMaxD, fEnS, sStuck, fLenS, cGtA, sAppQ, sSetQ, sForT, forTL, opSortT, fDItems, fDKeys, fLcO, D.key, fDNew, fDGet, sDPutV, fDSet, fRg3, fChV, fSortL, frL, frS, fSortB, sRem, sqAt, eIxI, fItm, fItV, chS, sItC, sItA, sItI, sItS, fTmp, Sl.mut, Sl.th, O.d, sqD, D.atm, sTryR, fSq, aConsF, aNilF, eO, sTgF, setFd, Fd.sl, opJoinRev, fLRev, runDef, runDefI, ioAt, insA, chL, getO, setO, getL, setL, obAt, eFd, eFV, eFB, fFld, fMeth, fMethI, fMake, fCallI, aHere, fIsO, sFldS, setF, Rs.fd, Fd.d, O.d, fMethD, chF, sAppF, fPopF, fPop0, fPop1, sIns, sRetI, sRetNI, fZip, fML, opAny, opAll, opSorted, opMaxL, opMinL, opRfind, opCount, List.map_cons, List.map_nil, cInA, cNinA, inD, itD, fItA, eItA, cLtA, cLeA, fRr1, fRr2, opInt, sPar, fCallD, fRaise0, fRaise1, sTryAs, sTry, aftr, noX, allEq_const, fXf, fXi, fLc, lcL, unE, tYs, Vs.ret, xLock, inis, bof, sNil, sSeq, sAsg, sRet, sRetV, sRetN, sIf, sDrop, sTg, sFor, sBrk, sCnt, sApp, sExt, sOwn, sSetI, opSetI, sLock, unlk, sbnd, bnd, fOp, fCh, fCl, fCall, fLst, fTup, fSl, fIf, fAnd, fOr, fNot, fTru, fAndV, fOrV, fNotV, fNeg, fIsi, fM1, fM2, fRg1, fRg2, fEn, fRev, fSg, fTp, fIt, eIt, eB, eV, eC, frz, shm, aCons, aNil, poN, poS, Rs.d, Rs.sl, vB, List.cons_append, List.nil_append, List.append_nil, List.replicate_zero, List.replicate_succ, List.getElem?_cons_zero, List.getElem?_cons_succ, List.set_cons_zero, List.set_cons_succ, List.length_cons, List.length_nil, opLen, lenD, opList, opAdd, opSub, opMul, opMod, opDiv, opPow, opMin, opMax, opIx, opSl, cmpB, cEq, cNe, cIsN, cNotN, truD, tgN, tgT, setAll, isKd, opFind, opFind3, opStarts, opStarts3, Nat.reduceLT, Nat.reduceAdd, Nat.reduceSub, Nat.reduceLeDiff, Int.reduceLT, Int.reduceLE, Int.reduceNeg, reduceIte, and_self, true_and, and_true, decide_true, decide_false, Int.toNat_natCast, itD]
  obtain ⟨j, h1, h2⟩ := forL_fold (tg := tgN 3) (body := l1_World_led) (fun (r : Nat) (x : Sl) => [.sh (.ob 0 [.str L, .lst (tabD T)]), .sh (.int (r : Int)), .sh (.str w), x]) (fun c => D.str [c]) (stp T L) (fun r => r < n) w r .un hr fun c hc r x hr => by
    refine ⟨_, rfl, .sh (.str [c]), ?_, stp_lt h hr (hw c hc)⟩
    have h1 : r < T.length := by rw [h.len]; exact hr
    have h2 := (h.row _ (getD_mem (d := []) h1)).1
    have h3 := List.idxOf_lt_length_of_mem (hw c hc)
    unfold l1_World_led
    simp (disch := first | omega | assumption) only [if_pos, if_neg, decide_eq_true, decide_eq_false, atI_of, cutL_take, cutL_drop, cutL_mid, ge_iff_le, gt_iff_lt, Int.reduceToNat, Int.toNat_zero, Int.toNat_one, Bool.not_true, Bool.not_false, szl, fMaxD, fEnS, sStuck, fLenS, cGtA, sAppQ, sSetQ, sForT, forTL, opSortT, fDItems, fDKeys, fLcO, D.key, fDNew, fDGet, sDPutV, fDSet, fRg3, fChV, fSortL, frL, frS, fSortB, sRem, sqAt, eIxI, fItm, fItV, chS, sItC, sItA, sItI, sItS, fTmp, Sl.mut, Sl.th, O.d, sqD, D.atm, sTryR, fSq, aConsF, aNilF, eO, sTgF, setFd, Fd.sl, opJoinRev, fLRev, runDef, runDefI, ioAt, insA, chL, getO, setO, getL, setL, obAt, eFd, eFV, eFB, fFld, fMeth, fMethI, fMake, fCallI, aHere, fIsO, sFldS, setF, Rs.fd, Fd.d, O.d, fMethD, chF, sAppF, fPopF, fPop0, fPop1, sIns, sRetI, sRetNI, fZip, fML, opAny, opAll, opSorted, opMaxL, opMinL, opRfind, opCount, List.map_cons, List.map_nil, cInA, cNinA, inD, itD, fItA, eItA, cLtA, cLeA, fRr1, fRr2, opInt, sPar, fCallD, fRaise0, fRaise1, sTryAs, sTry, aftr, noX, allEq_const, fXf, fXi, fLc, lcL, unE, tYs, Vs.ret, xLock, inis, bof, sNil, sSeq, sAsg, sRet, sRetV, sRetN, sIf, sDrop, sTg, sFor, sBrk, sCnt, sApp, sExt, sOwn, sSetI, opSetI, sLock, unlk, sbnd, bnd, fOp, fCh, fCl, fCall, fLst, fTup, fSl, fIf, fAnd, fOr, fNot, fTru, fAndV, fOrV, fNotV, fNeg, fIsi, fM1, fM2, fRg1, fRg2, fEn, fRev, fSg, fTp, fIt, eIt, eB, eV, eC, frz, shm, aCons, aNil, poN, poS, Rs.d, Rs.sl, vB, List.cons_append, List.nil_append, List.append_nil, List.replicate_zero, List.replicate_succ, List.getElem?_cons_zero, List.getElem?_cons_succ, List.set_cons_zero, List.set_cons_succ, List.length_cons, List.length_nil, opLen, lenD, opList, opAdd, opSub, opMul, opMod, opDiv, opPow, opMin, opMax, opIx, opSl, cmpB, cEq, cNe, cIsN, cNotN, truD, tgN, tgT, setAll, isKd, opFind, opFind3, opStarts, opStarts3, Nat.reduceLT, Nat.reduceAdd, Nat.reduceSub, Nat.reduceLeDiff, Int.reduceLT, Int.reduceLE, Int.reduceNeg, reduceIte, and_self, true_and, and_true, decide_true, decide_false, Int.toNat_natCast, fld_table, fld_letters, tab_at, find_idx (hw c hc), nd_at, stp]
  rw [h1]
  simp only [fMaxD, fEnS, sStuck, fLenS, cGtA, sAppQ, sSetQ, sForT, forTL, opSortT, fDItems, fDKeys, fLcO, D.key, fDNew, fDGet, sDPutV, fDSet, fRg3, fChV, fSortL, frL, frS, fSortB, sRem, sqAt, eIxI, fItm, fItV, chS, sItC, sItA, sItI, sItS, fTmp, Sl.mut, Sl.th, O.d, sqD, D.atm, sTryR, fSq, aConsF, aNilF, eO, sTgF, setFd, Fd.sl, opJoinRev, fLRev, runDef, runDefI, ioAt, insA, chL, getO, setO, getL, setL, obAt, eFd, eFV, eFB, fFld, fMeth, fMethI, fMake, fCallI, aHere, fIsO, sFldS, setF, Rs.fd, Fd.d, O.d, fMethD, chF, sAppF, fPopF, fPop0, fPop1, sIns, sRetI, sRetNI, fZip, fML, opAny, opAll, opSorted, opMaxL, opMinL, opRfind, opCount, List.map_cons, List.map_nil, cInA, cNinA, inD, itD, fItA, eItA, cLtA, cLeA, fRr1, fRr2, opInt, sPar, fCallD, fRaise0, fRaise1, sTryAs, sTry, aftr, noX, allEq_const, fXf, fXi, fLc, lcL, unE, tYs, Vs.ret, xLock, inis, bof, sNil, sSeq, sAsg, sRet, sRetV, sRetN, sIf, sDrop, sTg, sFor, sBrk, sCnt, sApp, sExt, sOwn, sSetI, opSetI, sLock, unlk, sbnd, bnd, fOp, fCh, fCl, fCall, fLst, fTup, fSl, fIf, fAnd, fOr, fNot, fTru, fAndV, fOrV, fNotV, fNeg, fIsi, fM1, fM2, fRg1, fRg2, fEn, fRev, fSg, fTp, fIt, eIt, eB, eV, eC, frz, shm, aCons, aNil, poN, poS, Rs.d, Rs.sl, vB, List.cons_append, List.nil_append, List.append_nil, List.replicate_zero, List.replicate_succ, List.getElem?_cons_zero, List.getElem?_cons_succ, List.set_cons_zero, List.set_cons_succ, List.length_cons, List.length_nil, opLen, lenD, opList, opAdd, opSub, opMul, opMod, opDiv, opPow, opMin, opMax, opIx, opSl, cmpB, cEq, cNe, cIsN, cNotN, truD, tgN, tgT, setAll, isKd, opFind, opFind3, opStarts, opStarts3, Nat.reduceLT, Nat.reduceAdd, Nat.reduceSub, Nat.reduceLeDiff, Int.reduceLT, Int.reduceLE, Int.reduceNeg, reduceIte, and_self, true_and, and_true, decide_true, decide_false, Int.toNat_natCast]
  rfl

/-! the law's own look at a table -/
theorem depA_nD : ∀ r : List Nat, PyData.depthAll (toPA (nD r)) = 0
  | [] => by simp [nD, toPA, PyData.depthAll]
  | x :: r => by
    have := depA_nD r
    unfold nD at this ⊢
    simp only [List.map_cons, toPA, D.toP, PyData.depthAll, PyData.depth, this]
    rfl
theorem plA_nD (r : List Nat) : plA (nD r) = true := plA_of fun d hd => by
  obtain ⟨x, _, rfl⟩ := List.mem_map.mp hd
  rfl
theorem okE_tab (T : List (List Nat)) : (D.lst (tabD T)).okE = true := okE_of (n := 2) (by decide) fun d hd => by
  obtain ⟨r, _, rfl⟩ := List.mem_map.mp hd
  refine ⟨by simp only [D.pl, plA_nD], ?_⟩
  simp only [D.toP, PyData.depth, depA_nD]
  decide
theorem e_law_is_table {T : List (List Nat)} {n m : Nat} (h : Tb T n m) (hn : n ≤ 1000) (hm : m ≤ 1000) : g_law_is_table [.lst (tabD T), .int (n : Int), .int (m : Int)] = some (.rt (.sh (.bl true))) := by
  unfold g_law_is_table b_law_is_table
  have hl := h.len
  have i1 : ∀ s t, i1_law_is_table [.bo (tabD T), .sh (.int (n : Int)), .sh (.int (m : Int)), s, t] = some (.nx [.bo (tabD T), .sh (.int (n : Int)), .sh (.int (m : Int)), s, t]) := fun s t => by
    unfold i1_law_is_table
    simp (disch := first | omega | assumption) only [if_pos, if_neg, decide_eq_true, decide_eq_false, atI_of, cutL_take, cutL_drop, cutL_mid, ge_iff_le, gt_iff_lt, Int.reduceToNat, Int.toNat_zero, Int.toNat_one, Bool.not_true, Bool.not_false, szl, fMaxD, fEnS, sStuck, fLenS, cGtA, sAppQ, sSetQ, sForT, forTL, opSortT, fDItems, fDKeys, fLcO, D.key, fDNew, fDGet, sDPutV, fDSet, fRg3, fChV, fSortL, frL, frS, fSortB, sRem, sqAt, eIxI, fItm, fItV, chS, sItC, sItA, sItI, sItS, fTmp, Sl.mut, Sl.th, O.d, sqD, D.atm, sTryR, fSq, aConsF, aNilF, eO, sTgF, setFd, Fd.sl, opJoinRev, fLRev, runDef, runDefI, ioAt, insA, chL, getO, setO, getL, setL, obAt, eFd, eFV, eFB, fFld, fMeth, fMethI, fMake, fCallI, aHere, fIsO, sFldS, setF, Rs.fd, Fd.d, O.d, fMethD, chF, sAppF, fPopF, fPop0, fPop1, sIns, sRetI, sRetNI, fZip, fML, opAny, opAll, opSorted, opMaxL, opMinL, opRfind, opCount, List.map_cons, List.map_nil, cInA, cNinA, inD, itD, fItA, eItA, cLtA, cLeA, fRr1, fRr2, opInt, sPar, fCallD, fRaise0, fRaise1, sTryAs, sTry, aftr, noX, allEq_const, fXf, fXi, fLc, lcL, unE, tYs, Vs.ret, xLock, inis, bof, sNil, sSeq, sAsg, sRet, sRetV, sRetN, sIf, sDrop, sTg, sFor, sBrk, sCnt, sApp, sExt, sOwn, sSetI, opSetI, sLock, unlk, sbnd, bnd, fOp, fCh, fCl, fCall, fLst, fTup, fSl, fIf, fAnd, fOr, fNot, fTru, fAndV, fOrV, fNotV, fNeg, fIsi, fM1, fM2, fRg1, fRg2, fEn, fRev, fSg, fTp, fIt, eIt, eB, eV, eC, frz, shm, aCons, aNil, poN, poS, Rs.d, Rs.sl, vB, List.cons_append, List.nil_append, List.append_nil, List.replicate_zero, List.replicate_succ, List.getElem?_cons_zero, List.getElem?_cons_succ, List.set_cons_zero, List.set_cons_succ, List.length_cons, List.length_nil, opLen, lenD, opList, opAdd, opSub, opMul, opMod, opDiv, opPow, opMin, opMax, opIx, opSl, cmpB, cEq, cNe, cIsN, cNotN, truD, tgN, tgT, setAll, isKd, opFind, opFind3, opStarts, opStarts3, Nat.reduceLT, Nat.reduceAdd, Nat.reduceSub, Nat.reduceLeDiff, Int.reduceLT, Int.reduceLE, Int.reduceNeg, reduceIte, and_self, true_and, and_true, decide_true, decide_false, Int.toNat_natCast, tabD_len, hl]
  obtain ⟨j, h3, _⟩ := forL_fold (tg := tgN 3) (body := l2_law_is_table) (fun (_ : Unit) (x : Sl × Sl) => [.bo (tabD T), .sh (.int (n : Int)), .sh (.int (m : Int)), x.1, x.2]) (fun r => D.lst (nD r)) (fun _ _ => ()) (fun _ => True) T () (.un, .un) trivial fun r hr _ x _ => by
    obtain ⟨g1, g2⟩ := h.row r hr
    refine ⟨_, rfl, ?_⟩
    unfold l2_law_is_table i2_law_is_table
    obtain ⟨j, h3, _⟩ := forL_fold (tg := tgN 4) (body := l1_law_is_table) (fun (_ : Unit) (x : Sl) => [.bo (tabD T), .sh (.int (n : Int)), .sh (.int (m : Int)), .sh (.lst (nD r)), x]) (fun (n : Nat) => D.int (n : Int)) (fun _ _ => ()) (fun _ => True) r () x.2 trivial fun c hc _ x _ => by
      refine ⟨_, rfl, .sh (.int (c : Int)), ?_, trivial⟩
      have := g2 c hc
      unfold l1_law_is_table i3_law_is_table
      simp (disch := first | omega | assumption) only [if_pos, if_neg, decide_eq_true, decide_eq_false, atI_of, cutL_take, cutL_drop, cutL_mid, ge_iff_le, gt_iff_lt, Int.reduceToNat, Int.toNat_zero, Int.toNat_one, Bool.not_true, Bool.not_false, szl, fMaxD, fEnS, sStuck, fLenS, cGtA, sAppQ, sSetQ, sForT, forTL, opSortT, fDItems, fDKeys, fLcO, D.key, fDNew, fDGet, sDPutV, fDSet, fRg3, fChV, fSortL, frL, frS, fSortB, sRem, sqAt, eIxI, fItm, fItV, chS, sItC, sItA, sItI, sItS, fTmp, Sl.mut, Sl.th, O.d, sqD, D.atm, sTryR, fSq, aConsF, aNilF, eO, sTgF, setFd, Fd.sl, opJoinRev, fLRev, runDef, runDefI, ioAt, insA, chL, getO, setO, getL, setL, obAt, eFd, eFV, eFB, fFld, fMeth, fMethI, fMake, fCallI, aHere, fIsO, sFldS, setF, Rs.fd, Fd.d, O.d, fMethD, chF, sAppF, fPopF, fPop0, fPop1, sIns, sRetI, sRetNI, fZip, fML, opAny, opAll, opSorted, opMaxL, opMinL, opRfind, opCount, List.map_cons, List.map_nil, cInA, cNinA, inD, itD, fItA, eItA, cLtA, cLeA, fRr1, fRr2, opInt, sPar, fCallD, fRaise0, fRaise1, sTryAs, sTry, aftr, noX, allEq_const, fXf, fXi, fLc, lcL, unE, tYs, Vs.ret, xLock, inis, bof, sNil, sSeq, sAsg, sRet, sRetV, sRetN, sIf, sDrop, sTg, sFor, sBrk, sCnt, sApp, sExt, sOwn, sSetI, opSetI, sLock, unlk, sbnd, bnd, fOp, fCh, fCl, fCall, fLst, fTup, fSl, fIf, fAnd, fOr, fNot, fTru, fAndV, fOrV, fNotV, fNeg, fIsi, fM1, fM2, fRg1, fRg2, fEn, fRev, fSg, fTp, fIt, eIt, eB, eV, eC, frz, shm, aCons, aNil, poN, poS, Rs.d, Rs.sl, vB, List.cons_append, List.nil_append, List.append_nil, List.replicate_zero, List.replicate_succ, List.getElem?_cons_zero, List.getElem?_cons_succ, List.set_cons_zero, List.set_cons_succ, List.length_cons, List.length_nil, opLen, lenD, opList, opAdd, opSub, opMul, opMod, opDiv, opPow, opMin, opMax, opIx, opSl, cmpB, cEq, cNe, cIsN, cNotN, truD, tgN, tgT, setAll, isKd, opFind, opFind3, opStarts, opStarts3, Nat.reduceLT, Nat.reduceAdd, Nat.reduceSub, Nat.reduceLeDiff, Int.reduceLT, Int.reduceLE, Int.reduceNeg, reduceIte, and_self, true_and, and_true, decide_true, decide_false, Int.toNat_natCast, g_law_whole, b_law_whole]
    refine ⟨(.sh (.lst (nD r)), j), ?_, trivial⟩
    have h3' : forL (tgN 4) l1_law_is_table (nD r) [.bo (tabD T), .sh (.int (n : Int)), .sh (.int (m : Int)), .sh (.lst (nD r)), x.2] = _ := h3
    simp (disch := first | omega | assumption) only [if_pos, if_neg, decide_eq_true, decide_eq_false, atI_of, cutL_take, cutL_drop, cutL_mid, ge_iff_le, gt_iff_lt, Int.reduceToNat, Int.toNat_zero, Int.toNat_one, Bool.not_true, Bool.not_false, szl, fMaxD, fEnS, sStuck, fLenS, cGtA, sAppQ, sSetQ, sForT, forTL, opSortT, fDItems, fDKeys, fLcO, D.key, fDNew, fDGet, sDPutV, fDSet, fRg3, fChV, fSortL, frL, frS, fSortB, sRem, sqAt, eIxI, fItm, fItV, chS, sItC, sItA, sItI, sItS, fTmp, Sl.mut, Sl.th, O.d, sqD, D.atm, sTryR, fSq, aConsF, aNilF, eO, sTgF, setFd, Fd.sl, opJoinRev, fLRev, runDef, runDefI, ioAt, insA, chL, getO, setO, getL, setL, obAt, eFd, eFV, eFB, fFld, fMeth, fMethI, fMake, fCallI, aHere, fIsO, sFldS, setF, Rs.fd, Fd.d, O.d, fMethD, chF, sAppF, fPopF, fPop0, fPop1, sIns, sRetI, sRetNI, fZip, fML, opAny, opAll, opSorted, opMaxL, opMinL, opRfind, opCount, List.map_cons, List.map_nil, cInA, cNinA, inD, itD, fItA, eItA, cLtA, cLeA, fRr1, fRr2, opInt, sPar, fCallD, fRaise0, fRaise1, sTryAs, sTry, aftr, noX, allEq_const, fXf, fXi, fLc, lcL, unE, tYs, Vs.ret, xLock, inis, bof, sNil, sSeq, sAsg, sRet, sRetV, sRetN, sIf, sDrop, sTg, sFor, sBrk, sCnt, sApp, sExt, sOwn, sSetI, opSetI, sLock, unlk, sbnd, bnd, fOp, fCh, fCl, fCall, fLst, fTup, fSl, fIf, fAnd, fOr, fNot, fTru, fAndV, fOrV, fNotV, fNeg, fIsi, fM1, fM2, fRg1, fRg2, fEn, fRev, fSg, fTp, fIt, eIt, eB, eV, eC, frz, shm, aCons, aNil, poN, poS, Rs.d, Rs.sl, vB, List.cons_append, List.nil_append, List.append_nil, List.replicate_zero, List.replicate_succ, List.getElem?_cons_zero, List.getElem?_cons_succ, List.set_cons_zero, List.set_cons_succ, List.length_cons, List.length_nil, opLen, lenD, opList, opAdd, opSub, opMul, opMod, opDiv, opPow, opMin, opMax, opIx, opSl, cmpB, cEq, cNe, cIsN, cNotN, truD, tgN, tgT, setAll, isKd, opFind, opFind3, opStarts, opStarts3, Nat.reduceLT, Nat.reduceAdd, Nat.reduceSub, Nat.reduceLeDiff, Int.reduceLT, Int.reduceLE, Int.reduceNeg, reduceIte, and_self, true_and, and_true, decide_true, decide_false, Int.toNat_natCast, nD_len, itD, g1, h3']
  have h3' : forL (tgN 3) l2_law_is_table (tabD T) [.bo (tabD T), .sh (.int (n : Int)), .sh (.int (m : Int)), .un, .un] = some (.nx [.bo (tabD T), .sh (.int (n : Int)), .sh (.int (m : Int)), j.1, j.2]) := h3
  simp (disch := first | omega | assumption) only [if_pos, if_neg, decide_eq_true, decide_eq_false, atI_of, cutL_take, cutL_drop, cutL_mid, ge_iff_le, gt_iff_lt, Int.reduceToNat, Int.toNat_zero, Int.toNat_one, Bool.not_true, Bool.not_false, szl, fMaxD, fEnS, sStuck, fLenS, cGtA, sAppQ, sSetQ, sForT, forTL, opSortT, fDItems, fDKeys, fLcO, D.key, fDNew, fDGet, sDPutV, fDSet, fRg3, fChV, fSortL, frL, frS, fSortB, sRem, sqAt, eIxI, fItm, fItV, chS, sItC, sItA, sItI, sItS, fTmp, Sl.mut, Sl.th, O.d, sqD, D.atm, sTryR, fSq, aConsF, aNilF, eO, sTgF, setFd, Fd.sl, opJoinRev, fLRev, runDef, runDefI, ioAt, insA, chL, getO, setO, getL, setL, obAt, eFd, eFV, eFB, fFld, fMeth, fMethI, fMake, fCallI, aHere, fIsO, sFldS, setF, Rs.fd, Fd.d, O.d, fMethD, chF, sAppF, fPopF, fPop0, fPop1, sIns, sRetI, sRetNI, fZip, fML, opAny, opAll, opSorted, opMaxL, opMinL, opRfind, opCount, List.map_cons, List.map_nil, cInA, cNinA, inD, itD, fItA, eItA, cLtA, cLeA, fRr1, fRr2, opInt, sPar, fCallD, fRaise0, fRaise1, sTryAs, sTry, aftr, noX, allEq_const, fXf, fXi, fLc, lcL, unE, tYs, Vs.ret, xLock, inis, bof, sNil, sSeq, sAsg, sRet, sRetV, sRetN, sIf, sDrop, sTg, sFor, sBrk, sCnt, sApp, sExt, sOwn, sSetI, opSetI, sLock, unlk, sbnd, bnd, fOp, fCh, fCl, fCall, fLst, fTup, fSl, fIf, fAnd, fOr, fNot, fTru, fAndV, fOrV, fNotV, fNeg, fIsi, fM1, fM2, fRg1, fRg2, fEn, fRev, fSg, fTp, fIt, eIt, eB, eV, eC, frz, shm, aCons, aNil, poN, poS, Rs.d, Rs.sl, vB, List.cons_append, List.nil_append, List.append_nil, List.replicate_zero, List.replicate_succ, List.getElem?_cons_zero, List.getElem?_cons_succ, List.set_cons_zero, List.set_cons_succ, List.length_cons, List.length_nil, opLen, lenD, opList, opAdd, opSub, opMul, opMod, opDiv, opPow, opMin, opMax, opIx, opSl, cmpB, cEq, cNe, cIsN, cNotN, truD, tgN, tgT, setAll, isKd, opFind, opFind3, opStarts, opStarts3, Nat.reduceLT, Nat.reduceAdd, Nat.reduceSub, Nat.reduceLeDiff, Int.reduceLT, Int.reduceLE, Int.reduceNeg, reduceIte, and_self, true_and, and_true, decide_true, decide_false, Int.toNat_natCast, i1, tabD_len, h3']

/-- a comprehension whose items are own lists -/
theorem lcLO_ow {β J : Type} {f : D → En → Option En} {te : Sm Rs} {vs : List Nat} (enc : J → En) (toD : β → D) (g : β → List D) : ∀ (w : List β) (acc : List Fd) (j : J),
    (∀ b ∈ w, ∀ j, ∃ e1, f (toD b) (enc j) = some e1 ∧ ∃ e3, te e1 = some (.ok (.ow (g b)) e3) ∧ ∃ j', unE vs e3 = enc j') →
    ∃ j', lcLO f tYs te vs (w.map toD) acc (enc j) = some (.ok (.tr (.sq false (acc ++ w.map fun b => Fd.ow (g b)))) (enc j'))
  | [], acc, j, _ => ⟨j, by simp [lcLO]⟩
  | b :: w, acc, j, hs => by
    obtain ⟨e1, h1, e3, h2, j1, h3⟩ := hs b List.mem_cons_self j
    obtain ⟨j', h4⟩ := lcLO_ow enc toD g w (acc ++ [.ow (g b)]) j1 fun b' m => hs b' (List.mem_cons_of_mem _ m)
    refine ⟨j', ?_⟩
    rw [List.map_cons]
    dsimp only [lcLO]
    rw [h1]
    dsimp only
    rw [show tYs e1 = some (.ok true e1) from rfl]
    dsimp only
    rw [h2]
    dsimp only
    rw [h3, h4, List.append_assoc]
    rfl

/-! k61: a world made of rows that are locked for that time -/
def rI (r : List Nat) : List Int := r.map fun (n : Nat) => (n : Int)
def scD (T : List (List Nat)) : List D := (T.map rI).map .scr
theorem rI_D (r : List Nat) : (rI r).map D.int = nD r := by unfold rI nD; rw [List.map_map]; rfl
theorem rI_len (r : List Nat) : (rI r).length = r.length := List.length_map ..
theorem scD_len (T : List (List Nat)) : (scD T).length = T.length := by unfold scD; rw [List.length_map, List.length_map]
theorem e_is_tableS {T : List (List Nat)} {L : List Nat} {n : Nat} (h : Tb T n L.length) (h1 : 1 ≤ n) (h8 : n ≤ 8) (hL : L.length ≤ 1000) : g_is_table [.str L, .lst (scD T)] = some (.rt (.sh (.bl true))) := by
  unfold g_is_table b_is_table
  have hl := h.len
  have i1 : ∀ s t, i1_is_table [.sh (.str L), .bo (scD T), s, t] = some (.nx [.sh (.str L), .bo (scD T), s, t]) := fun s t => by
    unfold i1_is_table
    simp (disch := first | omega | assumption) only [if_pos, if_neg, decide_eq_true, decide_eq_false, atI_of, cutL_take, cutL_drop, cutL_mid, ge_iff_le, gt_iff_lt, Int.reduceToNat, Int.toNat_zero, Int.toNat_one, Bool.not_true, Bool.not_false, szl, fMaxD, fEnS, sStuck, fLenS, cGtA, sAppQ, sSetQ, sForT, forTL, opSortT, fDItems, fDKeys, fLcO, D.key, fDNew, fDGet, sDPutV, fDSet, fRg3, fChV, fSortL, frL, frS, fSortB, sRem, sqAt, eIxI, fItm, fItV, chS, sItC, sItA, sItI, sItS, fTmp, Sl.mut, Sl.th, O.d, sqD, D.atm, sTryR, fSq, aConsF, aNilF, eO, sTgF, setFd, Fd.sl, opJoinRev, fLRev, runDef, runDefI, ioAt, insA, chL, getO, setO, getL, setL, obAt, eFd, eFV, eFB, fFld, fMeth, fMethI, fMake, fCallI, aHere, fIsO, sFldS, setF, Rs.fd, Fd.d, O.d, fMethD, chF, sAppF, fPopF, fPop0, fPop1, sIns, sRetI, sRetNI, fZip, fML, opAny, opAll, opSorted, opMaxL, opMinL, opRfind, opCount, List.map_cons, List.map_nil, cInA, cNinA, inD, itD, fItA, eItA, cLtA, cLeA, fRr1, fRr2, opInt, sPar, fCallD, fRaise0, fRaise1, sTryAs, sTry, aftr, noX, allEq_const, fXf, fXi, fLc, lcL, unE, tYs, Vs.ret, xLock, inis, bof, sNil, sSeq, sAsg, sRet, sRetV, sRetN, sIf, sDrop, sTg, sFor, sBrk, sCnt, sApp, sExt, sOwn, sSetI, opSetI, sLock, unlk, sbnd, bnd, fOp, fCh, fCl, fCall, fLst, fTup, fSl, fIf, fAnd, fOr, fNot, fTru, fAndV, fOrV, fNotV, fNeg, fIsi, fM1, fM2, fRg1, fRg2, fEn, fRev, fSg, fTp, fIt, eIt, eB, eV, eC, frz, shm, aCons, aNil, poN, poS, Rs.d, Rs.sl, vB, List.cons_append, List.nil_append, List.append_nil, List.replicate_zero, List.replicate_succ, List.getElem?_cons_zero, List.getElem?_cons_succ, List.set_cons_zero, List.set_cons_succ, List.length_cons, List.length_nil, opLen, lenD, opList, opAdd, opSub, opMul, opMod, opDiv, opPow, opMin, opMax, opIx, opSl, cmpB, cEq, cNe, cIsN, cNotN, truD, tgN, tgT, setAll, isKd, opFind, opFind3, opStarts, opStarts3, Nat.reduceLT, Nat.reduceAdd, Nat.reduceSub, Nat.reduceLeDiff, Int.reduceLT, Int.reduceLE, Int.reduceNeg, reduceIte, and_self, true_and, and_true, decide_true, decide_false, Int.toNat_natCast, scD_len]
  obtain ⟨j, h3, _⟩ := forL_fold (tg := tgN 2) (body := l2_is_table) (fun (_ : Unit) (x : Sl × Sl) => [.sh (.str L), .bo (scD T), x.1, x.2]) (fun r => D.scr (rI r)) (fun _ _ => ()) (fun _ => True) T () (.un, .un) trivial fun r hr _ x _ => by
    obtain ⟨g1, g2⟩ := h.row r hr
    refine ⟨_, rfl, ?_⟩
    unfold l2_is_table i2_is_table
    obtain ⟨j, h3, _⟩ := forL_fold (tg := tgN 3) (body := l1_is_table) (fun (_ : Unit) (x : Sl) => [.sh (.str L), .bo (scD T), .sh (.scr (rI r)), x]) (fun (n : Nat) => D.int (n : Int)) (fun _ _ => ()) (fun _ => True) r () x.2 trivial fun c hc _ x _ => by
      refine ⟨_, rfl, .sh (.int (c : Int)), ?_, trivial⟩
      have := g2 c hc
      unfold l1_is_table i3_is_table
      simp (disch := first | omega | assumption) only [if_pos, if_neg, decide_eq_true, decide_eq_false, atI_of, cutL_take, cutL_drop, cutL_mid, ge_iff_le, gt_iff_lt, Int.reduceToNat, Int.toNat_zero, Int.toNat_one, Bool.not_true, Bool.not_false, szl, fMaxD, fEnS, sStuck, fLenS, cGtA, sAppQ, sSetQ, sForT, forTL, opSortT, fDItems, fDKeys, fLcO, D.key, fDNew, fDGet, sDPutV, fDSet, fRg3, fChV, fSortL, frL, frS, fSortB, sRem, sqAt, eIxI, fItm, fItV, chS, sItC, sItA, sItI, sItS, fTmp, Sl.mut, Sl.th, O.d, sqD, D.atm, sTryR, fSq, aConsF, aNilF, eO, sTgF, setFd, Fd.sl, opJoinRev, fLRev, runDef, runDefI, ioAt, insA, chL, getO, setO, getL, setL, obAt, eFd, eFV, eFB, fFld, fMeth, fMethI, fMake, fCallI, aHere, fIsO, sFldS, setF, Rs.fd, Fd.d, O.d, fMethD, chF, sAppF, fPopF, fPop0, fPop1, sIns, sRetI, sRetNI, fZip, fML, opAny, opAll, opSorted, opMaxL, opMinL, opRfind, opCount, List.map_cons, List.map_nil, cInA, cNinA, inD, itD, fItA, eItA, cLtA, cLeA, fRr1, fRr2, opInt, sPar, fCallD, fRaise0, fRaise1, sTryAs, sTry, aftr, noX, allEq_const, fXf, fXi, fLc, lcL, unE, tYs, Vs.ret, xLock, inis, bof, sNil, sSeq, sAsg, sRet, sRetV, sRetN, sIf, sDrop, sTg, sFor, sBrk, sCnt, sApp, sExt, sOwn, sSetI, opSetI, sLock, unlk, sbnd, bnd, fOp, fCh, fCl, fCall, fLst, fTup, fSl, fIf, fAnd, fOr, fNot, fTru, fAndV, fOrV, fNotV, fNeg, fIsi, fM1, fM2, fRg1, fRg2, fEn, fRev, fSg, fTp, fIt, eIt, eB, eV, eC, frz, shm, aCons, aNil, poN, poS, Rs.d, Rs.sl, vB, List.cons_append, List.nil_append, List.append_nil, List.replicate_zero, List.replicate_succ, List.getElem?_cons_zero, List.getElem?_cons_succ, List.set_cons_zero, List.set_cons_succ, List.length_cons, List.length_nil, opLen, lenD, opList, opAdd, opSub, opMul, opMod, opDiv, opPow, opMin, opMax, opIx, opSl, cmpB, cEq, cNe, cIsN, cNotN, truD, tgN, tgT, setAll, isKd, opFind, opFind3, opStarts, opStarts3, Nat.reduceLT, Nat.reduceAdd, Nat.reduceSub, Nat.reduceLeDiff, Int.reduceLT, Int.reduceLE, Int.reduceNeg, reduceIte, and_self, true_and, and_true, decide_true, decide_false, Int.toNat_natCast, scD_len]
    refine ⟨(.sh (.scr (rI r)), j), ?_, trivial⟩
    have h3' : forL (tgN 3) l1_is_table (nD r) [.sh (.str L), .bo (scD T), .sh (.scr (rI r)), x.2] = _ := h3
    simp (disch := first | omega | assumption) only [if_pos, if_neg, decide_eq_true, decide_eq_false, atI_of, cutL_take, cutL_drop, cutL_mid, ge_iff_le, gt_iff_lt, Int.reduceToNat, Int.toNat_zero, Int.toNat_one, Bool.not_true, Bool.not_false, szl, fMaxD, fEnS, sStuck, fLenS, cGtA, sAppQ, sSetQ, sForT, forTL, opSortT, fDItems, fDKeys, fLcO, D.key, fDNew, fDGet, sDPutV, fDSet, fRg3, fChV, fSortL, frL, frS, fSortB, sRem, sqAt, eIxI, fItm, fItV, chS, sItC, sItA, sItI, sItS, fTmp, Sl.mut, Sl.th, O.d, sqD, D.atm, sTryR, fSq, aConsF, aNilF, eO, sTgF, setFd, Fd.sl, opJoinRev, fLRev, runDef, runDefI, ioAt, insA, chL, getO, setO, getL, setL, obAt, eFd, eFV, eFB, fFld, fMeth, fMethI, fMake, fCallI, aHere, fIsO, sFldS, setF, Rs.fd, Fd.d, O.d, fMethD, chF, sAppF, fPopF, fPop0, fPop1, sIns, sRetI, sRetNI, fZip, fML, opAny, opAll, opSorted, opMaxL, opMinL, opRfind, opCount, List.map_cons, List.map_nil, cInA, cNinA, inD, itD, fItA, eItA, cLtA, cLeA, fRr1, fRr2, opInt, sPar, fCallD, fRaise0, fRaise1, sTryAs, sTry, aftr, noX, allEq_const, fXf, fXi, fLc, lcL, unE, tYs, Vs.ret, xLock, inis, bof, sNil, sSeq, sAsg, sRet, sRetV, sRetN, sIf, sDrop, sTg, sFor, sBrk, sCnt, sApp, sExt, sOwn, sSetI, opSetI, sLock, unlk, sbnd, bnd, fOp, fCh, fCl, fCall, fLst, fTup, fSl, fIf, fAnd, fOr, fNot, fTru, fAndV, fOrV, fNotV, fNeg, fIsi, fM1, fM2, fRg1, fRg2, fEn, fRev, fSg, fTp, fIt, eIt, eB, eV, eC, frz, shm, aCons, aNil, poN, poS, Rs.d, Rs.sl, vB, List.cons_append, List.nil_append, List.append_nil, List.replicate_zero, List.replicate_succ, List.getElem?_cons_zero, List.getElem?_cons_succ, List.set_cons_zero, List.set_cons_succ, List.length_cons, List.length_nil, opLen, lenD, opList, opAdd, opSub, opMul, opMod, opDiv, opPow, opMin, opMax, opIx, opSl, cmpB, cEq, cNe, cIsN, cNotN, truD, tgN, tgT, setAll, isKd, opFind, opFind3, opStarts, opStarts3, Nat.reduceLT, Nat.reduceAdd, Nat.reduceSub, Nat.reduceLeDiff, Int.reduceLT, Int.reduceLE, Int.reduceNeg, reduceIte, and_self, true_and, and_true, decide_true, decide_false, Int.toNat_natCast, rI_len, itD, rI_D, g1, h3']
  have e : T.map (fun r => D.scr (rI r)) = scD T := by unfold scD; rw [List.map_map]; rfl
  rw [e] at h3
  have h3' : forL (tgN 2) l2_is_table (scD T) [.sh (.str L), .bo (scD T), .un, .un] = _ := h3
  simp (disch := first | omega | assumption) only [if_pos, if_neg, decide_eq_true, decide_eq_false, atI_of, cutL_take, cutL_drop, cutL_mid, ge_iff_le, gt_iff_lt, Int.reduceToNat, Int.toNat_zero, Int.toNat_one, Bool.not_true, Bool.not_false, szl, fMaxD, fEnS, sStuck, fLenS, cGtA, sAppQ, sSetQ, sForT, forTL, opSortT, fDItems, fDKeys, fLcO, D.key, fDNew, fDGet, sDPutV, fDSet, fRg3, fChV, fSortL, frL, frS, fSortB, sRem, sqAt, eIxI, fItm, fItV, chS, sItC, sItA, sItI, sItS, fTmp, Sl.mut, Sl.th, O.d, sqD, D.atm, sTryR, fSq, aConsF, aNilF, eO, sTgF, setFd, Fd.sl, opJoinRev, fLRev, runDef, runDefI, ioAt, insA, chL, getO, setO, getL, setL, obAt, eFd, eFV, eFB, fFld, fMeth, fMethI, fMake, fCallI, aHere, fIsO, sFldS, setF, Rs.fd, Fd.d, O.d, fMethD, chF, sAppF, fPopF, fPop0, fPop1, sIns, sRetI, sRetNI, fZip, fML, opAny, opAll, opSorted, opMaxL, opMinL, opRfind, opCount, List.map_cons, List.map_nil, cInA, cNinA, inD, itD, fItA, eItA, cLtA, cLeA, fRr1, fRr2, opInt, sPar, fCallD, fRaise0, fRaise1, sTryAs, sTry, aftr, noX, allEq_const, fXf, fXi, fLc, lcL, unE, tYs, Vs.ret, xLock, inis, bof, sNil, sSeq, sAsg, sRet, sRetV, sRetN, sIf, sDrop, sTg, sFor, sBrk, sCnt, sApp, sExt, sOwn, sSetI, opSetI, sLock, unlk, sbnd, bnd, fOp, fCh, fCl, fCall, fLst, fTup, fSl, fIf, fAnd, fOr, fNot, fTru, fAndV, fOrV, fNotV, fNeg, fIsi, fM1, fM2, fRg1, fRg2, fEn, fRev, fSg, fTp, fIt, eIt, eB, eV, eC, frz, shm, aCons, aNil, poN, poS, Rs.d, Rs.sl, vB, List.cons_append, List.nil_append, List.append_nil, List.replicate_zero, List.replicate_succ, List.getElem?_cons_zero, List.getElem?_cons_succ, List.set_cons_zero, List.set_cons_succ, List.length_cons, List.length_nil, opLen, lenD, opList, opAdd, opSub, opMul, opMod, opDiv, opPow, opMin, opMax, opIx, opSl, cmpB, cEq, cNe, cIsN, cNotN, truD, tgN, tgT, setAll, isKd, opFind, opFind3, opStarts, opStarts3, Nat.reduceLT, Nat.reduceAdd, Nat.reduceSub, Nat.reduceLeDiff, Int.reduceLT, Int.reduceLE, Int.reduceNeg, reduceIte, and_self, true_and, and_true, decide_true, decide_false, Int.toNat_natCast, i1, h3']
theorem e_World_initS {T : List (List Nat)} {L : List Nat} {n : Nat} (h : Tb T n L.length) (h1 : 1 ≤ n) (h8 : n ≤ 8) (hL : Lts L) (hL1 : 1 ≤ L.length) (hL6 : L.length ≤ 6) : g_World_init (.ob 0 []) [.str L, .lst (scD T)] = some (.rt (.sh .non) (.ob 0 [.sh (.str L), .sh (.lst (tabD T))])) := by
  unfold g_World_init b_World_init
  have e1 := e_letters_ok hL hL1 hL6
  have e2 := e_is_tableS h h1 h8 (by omega)
  have hl := h.len
  obtain ⟨j, e3⟩ := lcL_fun (f := tgN 3) (te := frz (fCl opList (aCons (eB 3) aNil))) (vs := [3]) (fun (_ : Unit) => [.io (.ob 0 [.sh (.str L)]), .sh (.str L), .bo (scD T), .un]) (fun r => D.scr (rI r)) (fun r => D.lst (nD r)) T [] () fun r hr _ => ⟨_, rfl, [.io (.ob 0 [.sh (.str L)]), .sh (.str L), .bo (scD T), .sh (.scr (rI r))], by simp (disch := first | omega | assumption) only [if_pos, if_neg, decide_eq_true, decide_eq_false, atI_of, cutL_take, cutL_drop, cutL_mid, ge_iff_le, gt_iff_lt, Int.reduceToNat, Int.toNat_zero, Int.toNat_one, Bool.not_true, Bool.not_false, szl, fMaxD, fEnS, sStuck, fLenS, cGtA, sAppQ, sSetQ, sForT, forTL, opSortT, fDItems, fDKeys, fLcO, D.key, fDNew, fDGet, sDPutV, fDSet, fRg3, fChV, fSortL, frL, frS, fSortB, sRem, sqAt, eIxI, fItm, fItV, chS, sItC, sItA, sItI, sItS, fTmp, Sl.mut, Sl.th, O.d, sqD, D.atm, sTryR, fSq, aConsF, aNilF, eO, sTgF, setFd, Fd.sl, opJoinRev, fLRev, runDef, runDefI, ioAt, insA, chL, getO, setO, getL, setL, obAt, eFd, eFV, eFB, fFld, fMeth, fMethI, fMake, fCallI, aHere, fIsO, sFldS, setF, Rs.fd, Fd.d, O.d, fMethD, chF, sAppF, fPopF, fPop0, fPop1, sIns, sRetI, sRetNI, fZip, fML, opAny, opAll, opSorted, opMaxL, opMinL, opRfind, opCount, List.map_cons, List.map_nil, cInA, cNinA, inD, itD, fItA, eItA, cLtA, cLeA, fRr1, fRr2, opInt, sPar, fCallD, fRaise0, fRaise1, sTryAs, sTry, aftr, noX, allEq_const, fXf, fXi, fLc, lcL, unE, tYs, Vs.ret, xLock, inis, bof, sNil, sSeq, sAsg, sRet, sRetV, sRetN, sIf, sDrop, sTg, sFor, sBrk, sCnt, sApp, sExt, sOwn, sSetI, opSetI, sLock, unlk, sbnd, bnd, fOp, fCh, fCl, fCall, fLst, fTup, fSl, fIf, fAnd, fOr, fNot, fTru, fAndV, fOrV, fNotV, fNeg, fIsi, fM1, fM2, fRg1, fRg2, fEn, fRev, fSg, fTp, fIt, eIt, eB, eV, eC, frz, shm, aCons, aNil, poN, poS, Rs.d, Rs.sl, vB, List.cons_append, List.nil_append, List.append_nil, List.replicate_zero, List.replicate_succ, List.getElem?_cons_zero, List.getElem?_cons_succ, List.set_cons_zero, List.set_cons_succ, List.length_cons, List.length_nil, opLen, lenD, opList, opAdd, opSub, opMul, opMod, opDiv, opPow, opMin, opMax, opIx, opSl, cmpB, cEq, cNe, cIsN, cNotN, truD, tgN, tgT, setAll, isKd, opFind, opFind3, opStarts, opStarts3, Nat.reduceLT, Nat.reduceAdd, Nat.reduceSub, Nat.reduceLeDiff, Int.reduceLT, Int.reduceLE, Int.reduceNeg, reduceIte, and_self, true_and, and_true, decide_true, decide_false, Int.toNat_natCast, rI_D], (), rfl⟩
  have e : T.map (fun r => D.scr (rI r)) = scD T := by unfold scD; rw [List.map_map]; rfl
  rw [e, List.nil_append] at e3
  have e3' : lcL (tgN 3) tYs (frz (fCl opList (aCons (eB 3) aNil))) [3] (scD T) [] [.io (.ob 0 [.sh (.str L)]), .sh (.str L), .bo (scD T), .un] = some (.ok (.ow (tabD T)) [.io (.ob 0 [.sh (.str L)]), .sh (.str L), .bo (scD T), .un]) := e3
  have i1 : i1_World_init [.io (.ob 0 [.sh (.str L)]), .sh (.str L), .bo (scD T), .un] = some (.nx [.io (.ob 0 [.sh (.str L)]), .sh (.str L), .bo (scD T), .un]) := by
    unfold i1_World_init
    simp (disch := first | omega | assumption) only [if_pos, if_neg, decide_eq_true, decide_eq_false, atI_of, cutL_take, cutL_drop, cutL_mid, ge_iff_le, gt_iff_lt, Int.reduceToNat, Int.toNat_zero, Int.toNat_one, Bool.not_true, Bool.not_false, szl, fMaxD, fEnS, sStuck, fLenS, cGtA, sAppQ, sSetQ, sForT, forTL, opSortT, fDItems, fDKeys, fLcO, D.key, fDNew, fDGet, sDPutV, fDSet, fRg3, fChV, fSortL, frL, frS, fSortB, sRem, sqAt, eIxI, fItm, fItV, chS, sItC, sItA, sItI, sItS, fTmp, Sl.mut, Sl.th, O.d, sqD, D.atm, sTryR, fSq, aConsF, aNilF, eO, sTgF, setFd, Fd.sl, opJoinRev, fLRev, runDef, runDefI, ioAt, insA, chL, getO, setO, getL, setL, obAt, eFd, eFV, eFB, fFld, fMeth, fMethI, fMake, fCallI, aHere, fIsO, sFldS, setF, Rs.fd, Fd.d, O.d, fMethD, chF, sAppF, fPopF, fPop0, fPop1, sIns, sRetI, sRetNI, fZip, fML, opAny, opAll, opSorted, opMaxL, opMinL, opRfind, opCount, List.map_cons, List.map_nil, cInA, cNinA, inD, itD, fItA, eItA, cLtA, cLeA, fRr1, fRr2, opInt, sPar, fCallD, fRaise0, fRaise1, sTryAs, sTry, aftr, noX, allEq_const, fXf, fXi, fLc, lcL, unE, tYs, Vs.ret, xLock, inis, bof, sNil, sSeq, sAsg, sRet, sRetV, sRetN, sIf, sDrop, sTg, sFor, sBrk, sCnt, sApp, sExt, sOwn, sSetI, opSetI, sLock, unlk, sbnd, bnd, fOp, fCh, fCl, fCall, fLst, fTup, fSl, fIf, fAnd, fOr, fNot, fTru, fAndV, fOrV, fNotV, fNeg, fIsi, fM1, fM2, fRg1, fRg2, fEn, fRev, fSg, fTp, fIt, eIt, eB, eV, eC, frz, shm, aCons, aNil, poN, poS, Rs.d, Rs.sl, vB, List.cons_append, List.nil_append, List.append_nil, List.replicate_zero, List.replicate_succ, List.getElem?_cons_zero, List.getElem?_cons_succ, List.set_cons_zero, List.set_cons_succ, List.length_cons, List.length_nil, opLen, lenD, opList, opAdd, opSub, opMul, opMod, opDiv, opPow, opMin, opMax, opIx, opSl, cmpB, cEq, cNe, cIsN, cNotN, truD, tgN, tgT, setAll, isKd, opFind, opFind3, opStarts, opStarts3, Nat.reduceLT, Nat.reduceAdd, Nat.reduceSub, Nat.reduceLeDiff, Int.reduceLT, Int.reduceLE, Int.reduceNeg, reduceIte, and_self, true_and, and_true, decide_true, decide_false, Int.toNat_natCast, e2, Bool.not_true]
  simp (disch := first | omega | assumption) only [if_pos, if_neg, decide_eq_true, decide_eq_false, atI_of, cutL_take, cutL_drop, cutL_mid, ge_iff_le, gt_iff_lt, Int.reduceToNat, Int.toNat_zero, Int.toNat_one, Bool.not_true, Bool.not_false, szl, fMaxD, fEnS, sStuck, fLenS, cGtA, sAppQ, sSetQ, sForT, forTL, opSortT, fDItems, fDKeys, fLcO, D.key, fDNew, fDGet, sDPutV, fDSet, fRg3, fChV, fSortL, frL, frS, fSortB, sRem, sqAt, eIxI, fItm, fItV, chS, sItC, sItA, sItI, sItS, fTmp, Sl.mut, Sl.th, O.d, sqD, D.atm, sTryR, fSq, aConsF, aNilF, eO, sTgF, setFd, Fd.sl, opJoinRev, fLRev, runDef, runDefI, ioAt, insA, chL, getO, setO, getL, setL, obAt, eFd, eFV, eFB, fFld, fMeth, fMethI, fMake, fCallI, aHere, fIsO, sFldS, setF, Rs.fd, Fd.d, O.d, fMethD, chF, sAppF, fPopF, fPop0, fPop1, sIns, sRetI, sRetNI, fZip, fML, opAny, opAll, opSorted, opMaxL, opMinL, opRfind, opCount, List.map_cons, List.map_nil, cInA, cNinA, inD, itD, fItA, eItA, cLtA, cLeA, fRr1, fRr2, opInt, sPar, fCallD, fRaise0, fRaise1, sTryAs, sTry, aftr, noX, allEq_const, fXf, fXi, fLc, lcL, unE, tYs, Vs.ret, xLock, inis, bof, sNil, sSeq, sAsg, sRet, sRetV, sRetN, sIf, sDrop, sTg, sFor, sBrk, sCnt, sApp, sExt, sOwn, sSetI, opSetI, sLock, unlk, sbnd, bnd, fOp, fCh, fCl, fCall, fLst, fTup, fSl, fIf, fAnd, fOr, fNot, fTru, fAndV, fOrV, fNotV, fNeg, fIsi, fM1, fM2, fRg1, fRg2, fEn, fRev, fSg, fTp, fIt, eIt, eB, eV, eC, frz, shm, aCons, aNil, poN, poS, Rs.d, Rs.sl, vB, List.cons_append, List.nil_append, List.append_nil, List.replicate_zero, List.replicate_succ, List.getElem?_cons_zero, List.getElem?_cons_succ, List.set_cons_zero, List.set_cons_succ, List.length_cons, List.length_nil, opLen, lenD, opList, opAdd, opSub, opMul, opMod, opDiv, opPow, opMin, opMax, opIx, opSl, cmpB, cEq, cNe, cIsN, cNotN, truD, tgN, tgT, setAll, isKd, opFind, opFind3, opStarts, opStarts3, Nat.reduceLT, Nat.reduceAdd, Nat.reduceSub, Nat.reduceLeDiff, Int.reduceLT, Int.reduceLE, Int.reduceNeg, reduceIte, and_self, true_and, and_true, decide_true, decide_false, Int.toNat_natCast] at e3'
  simp (disch := first | omega | assumption) only [if_pos, if_neg, decide_eq_true, decide_eq_false, atI_of, cutL_take, cutL_drop, cutL_mid, ge_iff_le, gt_iff_lt, Int.reduceToNat, Int.toNat_zero, Int.toNat_one, Bool.not_true, Bool.not_false, szl, fMaxD, fEnS, sStuck, fLenS, cGtA, sAppQ, sSetQ, sForT, forTL, opSortT, fDItems, fDKeys, fLcO, D.key, fDNew, fDGet, sDPutV, fDSet, fRg3, fChV, fSortL, frL, frS, fSortB, sRem, sqAt, eIxI, fItm, fItV, chS, sItC, sItA, sItI, sItS, fTmp, Sl.mut, Sl.th, O.d, sqD, D.atm, sTryR, fSq, aConsF, aNilF, eO, sTgF, setFd, Fd.sl, opJoinRev, fLRev, runDef, runDefI, ioAt, insA, chL, getO, setO, getL, setL, obAt, eFd, eFV, eFB, fFld, fMeth, fMethI, fMake, fCallI, aHere, fIsO, sFldS, setF, Rs.fd, Fd.d, O.d, fMethD, chF, sAppF, fPopF, fPop0, fPop1, sIns, sRetI, sRetNI, fZip, fML, opAny, opAll, opSorted, opMaxL, opMinL, opRfind, opCount, List.map_cons, List.map_nil, cInA, cNinA, inD, itD, fItA, eItA, cLtA, cLeA, fRr1, fRr2, opInt, sPar, fCallD, fRaise0, fRaise1, sTryAs, sTry, aftr, noX, allEq_const, fXf, fXi, fLc, lcL, unE, tYs, Vs.ret, xLock, inis, bof, sNil, sSeq, sAsg, sRet, sRetV, sRetN, sIf, sDrop, sTg, sFor, sBrk, sCnt, sApp, sExt, sOwn, sSetI, opSetI, sLock, unlk, sbnd, bnd, fOp, fCh, fCl, fCall, fLst, fTup, fSl, fIf, fAnd, fOr, fNot, fTru, fAndV, fOrV, fNotV, fNeg, fIsi, fM1, fM2, fRg1, fRg2, fEn, fRev, fSg, fTp, fIt, eIt, eB, eV, eC, frz, shm, aCons, aNil, poN, poS, Rs.d, Rs.sl, vB, List.cons_append, List.nil_append, List.append_nil, List.replicate_zero, List.replicate_succ, List.getElem?_cons_zero, List.getElem?_cons_succ, List.set_cons_zero, List.set_cons_succ, List.length_cons, List.length_nil, opLen, lenD, opList, opAdd, opSub, opMul, opMod, opDiv, opPow, opMin, opMax, opIx, opSl, cmpB, cEq, cNe, cIsN, cNotN, truD, tgN, tgT, setAll, isKd, opFind, opFind3, opStarts, opStarts3, Nat.reduceLT, Nat.reduceAdd, Nat.reduceSub, Nat.reduceLeDiff, Int.reduceLT, Int.reduceLE, Int.reduceNeg, reduceIte, and_self, true_and, and_true, decide_true, decide_false, Int.toNat_natCast, e1, fld_letters, fld_table, i1, eItA, scD_len, hl, e3']
/-- a table as an own list of own lists -/
def tabF (T : List (List Nat)) : List Fd := T.map fun r => .ow (nD r)
theorem tabF_d (T : List (List Nat)) : (tabF T).map Fd.d = tabD T := by unfold tabF tabD; rw [List.map_map]; rfl
theorem nD_ints : ∀ r : List Nat, allInts (nD r) = some (rI r)
  | [] => rfl
  | n :: r => by
    have ih := nD_ints r
    unfold nD rI at ih ⊢
    rw [List.map_cons, allInts, ih]
    rfl
theorem tabF_rows : ∀ T : List (List Nat), rowI (tabF T) = some (T.map rI)
  | [] => rfl
  | r :: T => by
    have ih := tabF_rows T
    unfold tabF at ih ⊢
    rw [List.map_cons, rowI, nD_ints, ih]
    rfl
theorem nosA_ints : ∀ r : List Nat, nosA (nD r) = true
  | [] => rfl
  | n :: r => by
    have ih := nosA_ints r
    unfold nD at ih ⊢
    rw [List.map_cons, nosA, ih]
    rfl
theorem nosA_tab : ∀ T : List (List Nat), nosA (tabD T) = true
  | [] => rfl
  | r :: T => by
    have ih := nosA_tab T
    unfold tabD at ih ⊢
    rw [List.map_cons, nosA, ih, D.nos, nosA_ints]
    rfl
theorem wob_nos (L : List Nat) (T : List (List Nat)) : (wob L T).nos = true := by
  simp [wob, D.nos, nosA, nosA_tab]
theorem e_toldQ (S : List Nat) (T : List (List Nat)) (hT : T.length ≤ 1000) : g_World_table_told [wob S T] = some (.rt (.tr (.sq false (tabF T)))) := by
  obtain ⟨j, f⟩ := lcLO_ow (f := tgN 1) (te := fCl opList (aCons (eB 1) aNil)) (vs := [1]) (fun (_ : Unit) => [.sh (wob S T), .un]) (fun r => D.lst (nD r)) nD T [] () fun r _ _ => ⟨_, rfl, [.sh (wob S T), .sh (.lst (nD r))], by simp (disch := first | omega | assumption) only [if_pos, if_neg, decide_eq_true, decide_eq_false, atI_of, cutL_take, cutL_drop, cutL_mid, ge_iff_le, gt_iff_lt, Int.reduceToNat, Int.toNat_zero, Int.toNat_one, Bool.not_true, Bool.not_false, szl, fMaxD, fEnS, sStuck, fLenS, cGtA, sAppQ, sSetQ, sForT, forTL, opSortT, fDItems, fDKeys, fLcO, D.key, fDNew, fDGet, sDPutV, fDSet, fRg3, fChV, fSortL, frL, frS, fSortB, sRem, sqAt, eIxI, fItm, fItV, chS, sItC, sItA, sItI, sItS, fTmp, Sl.mut, Sl.th, O.d, sqD, D.atm, sTryR, fSq, aConsF, aNilF, eO, sTgF, setFd, Fd.sl, opJoinRev, fLRev, runDef, runDefI, ioAt, insA, chL, getO, setO, getL, setL, obAt, eFd, eFV, eFB, fFld, fMeth, fMethI, fMake, fCallI, aHere, fIsO, sFldS, setF, Rs.fd, Fd.d, O.d, fMethD, chF, sAppF, fPopF, fPop0, fPop1, sIns, sRetI, sRetNI, fZip, fML, opAny, opAll, opSorted, opMaxL, opMinL, opRfind, opCount, List.map_cons, List.map_nil, cInA, cNinA, inD, itD, fItA, eItA, cLtA, cLeA, fRr1, fRr2, opInt, sPar, fCallD, fRaise0, fRaise1, sTryAs, sTry, aftr, noX, allEq_const, fXf, fXi, fLc, lcL, unE, tYs, Vs.ret, xLock, inis, bof, sNil, sSeq, sAsg, sRet, sRetV, sRetN, sIf, sDrop, sTg, sFor, sBrk, sCnt, sApp, sExt, sOwn, sSetI, opSetI, sLock, unlk, sbnd, bnd, fOp, fCh, fCl, fCall, fLst, fTup, fSl, fIf, fAnd, fOr, fNot, fTru, fAndV, fOrV, fNotV, fNeg, fIsi, fM1, fM2, fRg1, fRg2, fEn, fRev, fSg, fTp, fIt, eIt, eB, eV, eC, frz, shm, aCons, aNil, poN, poS, Rs.d, Rs.sl, vB, List.cons_append, List.nil_append, List.append_nil, List.replicate_zero, List.replicate_succ, List.getElem?_cons_zero, List.getElem?_cons_succ, List.set_cons_zero, List.set_cons_succ, List.length_cons, List.length_nil, opLen, lenD, opList, opAdd, opSub, opMul, opMod, opDiv, opPow, opMin, opMax, opIx, opSl, cmpB, cEq, cNe, cIsN, cNotN, truD, tgN, tgT, setAll, isKd, opFind, opFind3, opStarts, opStarts3, Nat.reduceLT, Nat.reduceAdd, Nat.reduceSub, Nat.reduceLeDiff, Int.reduceLT, Int.reduceLE, Int.reduceNeg, reduceIte, and_self, true_and, and_true, decide_true, decide_false, Int.toNat_natCast], (), rfl⟩
  rw [List.nil_append] at f
  have f' : lcLO (tgN 1) tYs (fCl opList (aCons (eB 1) aNil)) [1] (tabD T) [] [.sh (wob S T), .un] = some (.ok (.tr (.sq false (tabF T))) [.sh (wob S T), .un]) := f
  have zl : (tabD T).length ≤ 1000000 := by rw [tabD_len]; omega
  unfold wob at f' ⊢
  simp (disch := first | omega | assumption) only [if_pos, if_neg, decide_eq_true, decide_eq_false, atI_of, cutL_take, cutL_drop, cutL_mid, ge_iff_le, gt_iff_lt, Int.reduceToNat, Int.toNat_zero, Int.toNat_one, Bool.not_true, Bool.not_false, szl, fMaxD, fEnS, sStuck, fLenS, cGtA, sAppQ, sSetQ, sForT, forTL, opSortT, fDItems, fDKeys, fLcO, D.key, fDNew, fDGet, sDPutV, fDSet, fRg3, fChV, fSortL, frL, frS, fSortB, sRem, sqAt, eIxI, fItm, fItV, chS, sItC, sItA, sItI, sItS, fTmp, Sl.mut, Sl.th, O.d, sqD, D.atm, sTryR, fSq, aConsF, aNilF, eO, sTgF, setFd, Fd.sl, opJoinRev, fLRev, runDef, runDefI, ioAt, insA, chL, getO, setO, getL, setL, obAt, eFd, eFV, eFB, fFld, fMeth, fMethI, fMake, fCallI, aHere, fIsO, sFldS, setF, Rs.fd, Fd.d, O.d, fMethD, chF, sAppF, fPopF, fPop0, fPop1, sIns, sRetI, sRetNI, fZip, fML, opAny, opAll, opSorted, opMaxL, opMinL, opRfind, opCount, List.map_cons, List.map_nil, cInA, cNinA, inD, itD, fItA, eItA, cLtA, cLeA, fRr1, fRr2, opInt, sPar, fCallD, fRaise0, fRaise1, sTryAs, sTry, aftr, noX, allEq_const, fXf, fXi, fLc, lcL, unE, tYs, Vs.ret, xLock, inis, bof, sNil, sSeq, sAsg, sRet, sRetV, sRetN, sIf, sDrop, sTg, sFor, sBrk, sCnt, sApp, sExt, sOwn, sSetI, opSetI, sLock, unlk, sbnd, bnd, fOp, fCh, fCl, fCall, fLst, fTup, fSl, fIf, fAnd, fOr, fNot, fTru, fAndV, fOrV, fNotV, fNeg, fIsi, fM1, fM2, fRg1, fRg2, fEn, fRev, fSg, fTp, fIt, eIt, eB, eV, eC, frz, shm, aCons, aNil, poN, poS, Rs.d, Rs.sl, vB, List.cons_append, List.nil_append, List.append_nil, List.replicate_zero, List.replicate_succ, List.getElem?_cons_zero, List.getElem?_cons_succ, List.set_cons_zero, List.set_cons_succ, List.length_cons, List.length_nil, opLen, lenD, opList, opAdd, opSub, opMul, opMod, opDiv, opPow, opMin, opMax, opIx, opSl, cmpB, cEq, cNe, cIsN, cNotN, truD, tgN, tgT, setAll, isKd, opFind, opFind3, opStarts, opStarts3, Nat.reduceLT, Nat.reduceAdd, Nat.reduceSub, Nat.reduceLeDiff, Int.reduceLT, Int.reduceLE, Int.reduceNeg, reduceIte, and_self, true_and, and_true, decide_true, decide_false, Int.toNat_natCast] at f'
  unfold g_World_table_told b_World_table_told
  simp (disch := first | omega | assumption) only [if_pos, if_neg, decide_eq_true, decide_eq_false, atI_of, cutL_take, cutL_drop, cutL_mid, ge_iff_le, gt_iff_lt, Int.reduceToNat, Int.toNat_zero, Int.toNat_one, Bool.not_true, Bool.not_false, szl, fMaxD, fEnS, sStuck, fLenS, cGtA, sAppQ, sSetQ, sForT, forTL, opSortT, fDItems, fDKeys, fLcO, D.key, fDNew, fDGet, sDPutV, fDSet, fRg3, fChV, fSortL, frL, frS, fSortB, sRem, sqAt, eIxI, fItm, fItV, chS, sItC, sItA, sItI, sItS, fTmp, Sl.mut, Sl.th, O.d, sqD, D.atm, sTryR, fSq, aConsF, aNilF, eO, sTgF, setFd, Fd.sl, opJoinRev, fLRev, runDef, runDefI, ioAt, insA, chL, getO, setO, getL, setL, obAt, eFd, eFV, eFB, fFld, fMeth, fMethI, fMake, fCallI, aHere, fIsO, sFldS, setF, Rs.fd, Fd.d, O.d, fMethD, chF, sAppF, fPopF, fPop0, fPop1, sIns, sRetI, sRetNI, fZip, fML, opAny, opAll, opSorted, opMaxL, opMinL, opRfind, opCount, List.map_cons, List.map_nil, cInA, cNinA, inD, itD, fItA, eItA, cLtA, cLeA, fRr1, fRr2, opInt, sPar, fCallD, fRaise0, fRaise1, sTryAs, sTry, aftr, noX, allEq_const, fXf, fXi, fLc, lcL, unE, tYs, Vs.ret, xLock, inis, bof, sNil, sSeq, sAsg, sRet, sRetV, sRetN, sIf, sDrop, sTg, sFor, sBrk, sCnt, sApp, sExt, sOwn, sSetI, opSetI, sLock, unlk, sbnd, bnd, fOp, fCh, fCl, fCall, fLst, fTup, fSl, fIf, fAnd, fOr, fNot, fTru, fAndV, fOrV, fNotV, fNeg, fIsi, fM1, fM2, fRg1, fRg2, fEn, fRev, fSg, fTp, fIt, eIt, eB, eV, eC, frz, shm, aCons, aNil, poN, poS, Rs.d, Rs.sl, vB, List.cons_append, List.nil_append, List.append_nil, List.replicate_zero, List.replicate_succ, List.getElem?_cons_zero, List.getElem?_cons_succ, List.set_cons_zero, List.set_cons_succ, List.length_cons, List.length_nil, opLen, lenD, opList, opAdd, opSub, opMul, opMod, opDiv, opPow, opMin, opMax, opIx, opSl, cmpB, cEq, cNe, cIsN, cNotN, truD, tgN, tgT, setAll, isKd, opFind, opFind3, opStarts, opStarts3, Nat.reduceLT, Nat.reduceAdd, Nat.reduceSub, Nat.reduceLeDiff, Int.reduceLT, Int.reduceLE, Int.reduceNeg, reduceIte, and_self, true_and, and_true, decide_true, decide_false, Int.toNat_natCast, fld_table, fItA, itD, f']
/-- the world leads as the table does -/
theorem e_leads {T : List (List Nat)} {L u v : List Nat} {n : Nat} (h : Tb T n L.length) (hn : n ≤ 8) (hu : ∀ c ∈ u, c ∈ L) (hv : ∀ c ∈ v, c ∈ L) (ul : u.length ≤ 100) (vl : v.length ≤ 100) : g_law_leads [wob L T, .lst (tabD T), .str L, .str u, .str v] = some (.rt (.sh (.bl true))) := by
  have hl := h.len
  obtain ⟨j, f⟩ := forL_each (tg := tgN 5) (body := l1_law_leads) (fun (q : Sl × Sl × Sl) => [.sh (wob L T), .bo (tabD T), .sh (.str L), .sh (.str u), .sh (.str v), q.1, q.2.1, q.2.2]) (fun (a : Nat) => D.int (0 + (a : Int))) (List.range n) (.un, .un, .un) fun r hr q => by
    have hr := List.mem_range.mp hr
    have e0 : (0 : Int) + (r : Int) = (r : Int) := by omega
    have x1 := led_lt h hr hu
    have w := fun c (hc : c ∈ u ++ v) => (List.mem_append.mp hc).elim (hu c) (hv c)
    have q1 := e_led h hr hu
    have q2 := e_law_led h hr hu
    have q3 := e_led h hr w
    have q4 := e_led h x1 hv
    have q5 := e_law_led h x1 hv
    have ap : led T L r (u ++ v) = led T L (led T L r u) v := List.foldl_append ..
    rw [ap] at q3
    obtain ⟨a, ha⟩ : ∃ a, a = led T L r u := ⟨_, rfl⟩
    rw [← ha] at q1 q2 q3 q4 q5
    obtain ⟨b, hb⟩ : ∃ b, b = led T L a v := ⟨_, rfl⟩
    rw [← hb] at q3 q4 q5
    have wh : ∀ z : Int, g_law_whole [.int z] = some (.rt (.sh (.bl true))) := fun z => by
      unfold g_law_whole b_law_whole
      simp (disch := first | omega | assumption) only [if_pos, if_neg, decide_eq_true, decide_eq_false, atI_of, cutL_take, cutL_drop, cutL_mid, ge_iff_le, gt_iff_lt, Int.reduceToNat, Int.toNat_zero, Int.toNat_one, Bool.not_true, Bool.not_false, szl, fMaxD, fEnS, sStuck, fLenS, cGtA, sAppQ, sSetQ, sForT, forTL, opSortT, fDItems, fDKeys, fLcO, D.key, fDNew, fDGet, sDPutV, fDSet, fRg3, fChV, fSortL, frL, frS, fSortB, sRem, sqAt, eIxI, fItm, fItV, chS, sItC, sItA, sItI, sItS, fTmp, Sl.mut, Sl.th, O.d, sqD, D.atm, sTryR, fSq, aConsF, aNilF, eO, sTgF, setFd, Fd.sl, opJoinRev, fLRev, runDef, runDefI, ioAt, insA, chL, getO, setO, getL, setL, obAt, eFd, eFV, eFB, fFld, fMeth, fMethI, fMake, fCallI, aHere, fIsO, sFldS, setF, Rs.fd, Fd.d, O.d, fMethD, chF, sAppF, fPopF, fPop0, fPop1, sIns, sRetI, sRetNI, fZip, fML, opAny, opAll, opSorted, opMaxL, opMinL, opRfind, opCount, List.map_cons, List.map_nil, cInA, cNinA, inD, itD, fItA, eItA, cLtA, cLeA, fRr1, fRr2, opInt, sPar, fCallD, fRaise0, fRaise1, sTryAs, sTry, aftr, noX, allEq_const, fXf, fXi, fLc, lcL, unE, tYs, Vs.ret, xLock, inis, bof, sNil, sSeq, sAsg, sRet, sRetV, sRetN, sIf, sDrop, sTg, sFor, sBrk, sCnt, sApp, sExt, sOwn, sSetI, opSetI, sLock, unlk, sbnd, bnd, fOp, fCh, fCl, fCall, fLst, fTup, fSl, fIf, fAnd, fOr, fNot, fTru, fAndV, fOrV, fNotV, fNeg, fIsi, fM1, fM2, fRg1, fRg2, fEn, fRev, fSg, fTp, fIt, eIt, eB, eV, eC, frz, shm, aCons, aNil, poN, poS, Rs.d, Rs.sl, vB, List.cons_append, List.nil_append, List.append_nil, List.replicate_zero, List.replicate_succ, List.getElem?_cons_zero, List.getElem?_cons_succ, List.set_cons_zero, List.set_cons_succ, List.length_cons, List.length_nil, opLen, lenD, opList, opAdd, opSub, opMul, opMod, opDiv, opPow, opMin, opMax, opIx, opSl, cmpB, cEq, cNe, cIsN, cNotN, truD, tgN, tgT, setAll, isKd, opFind, opFind3, opStarts, opStarts3, Nat.reduceLT, Nat.reduceAdd, Nat.reduceSub, Nat.reduceLeDiff, Int.reduceLT, Int.reduceLE, Int.reduceNeg, reduceIte, and_self, true_and, and_true, decide_true, decide_false, Int.toNat_natCast]
      try rfl
    obtain ⟨O1, hO1⟩ : ∃ M, M = tabD T := ⟨_, rfl⟩
    unfold wob at q1 q3 q4 ⊢
    rw [← hO1] at q1 q2 q3 q4 q5 ⊢
    refine ⟨_, rfl, (.sh (.int (r : Int)), .sh (.int (a : Int)), .sh (.int (b : Int))), .inl ?_⟩
    unfold l1_law_leads i1_law_leads i2_law_leads i3_law_leads
    simp (disch := first | omega | assumption) only [if_pos, if_neg, decide_eq_true, decide_eq_false, atI_of, cutL_take, cutL_drop, cutL_mid, ge_iff_le, gt_iff_lt, Int.reduceToNat, Int.toNat_zero, Int.toNat_one, Bool.not_true, Bool.not_false, szl, fMaxD, fEnS, sStuck, fLenS, cGtA, sAppQ, sSetQ, sForT, forTL, opSortT, fDItems, fDKeys, fLcO, D.key, fDNew, fDGet, sDPutV, fDSet, fRg3, fChV, fSortL, frL, frS, fSortB, sRem, sqAt, eIxI, fItm, fItV, chS, sItC, sItA, sItI, sItS, fTmp, Sl.mut, Sl.th, O.d, sqD, D.atm, sTryR, fSq, aConsF, aNilF, eO, sTgF, setFd, Fd.sl, opJoinRev, fLRev, runDef, runDefI, ioAt, insA, chL, getO, setO, getL, setL, obAt, eFd, eFV, eFB, fFld, fMeth, fMethI, fMake, fCallI, aHere, fIsO, sFldS, setF, Rs.fd, Fd.d, O.d, fMethD, chF, sAppF, fPopF, fPop0, fPop1, sIns, sRetI, sRetNI, fZip, fML, opAny, opAll, opSorted, opMaxL, opMinL, opRfind, opCount, List.map_cons, List.map_nil, cInA, cNinA, inD, itD, fItA, eItA, cLtA, cLeA, fRr1, fRr2, opInt, sPar, fCallD, fRaise0, fRaise1, sTryAs, sTry, aftr, noX, allEq_const, fXf, fXi, fLc, lcL, unE, tYs, Vs.ret, xLock, inis, bof, sNil, sSeq, sAsg, sRet, sRetV, sRetN, sIf, sDrop, sTg, sFor, sBrk, sCnt, sApp, sExt, sOwn, sSetI, opSetI, sLock, unlk, sbnd, bnd, fOp, fCh, fCl, fCall, fLst, fTup, fSl, fIf, fAnd, fOr, fNot, fTru, fAndV, fOrV, fNotV, fNeg, fIsi, fM1, fM2, fRg1, fRg2, fEn, fRev, fSg, fTp, fIt, eIt, eB, eV, eC, frz, shm, aCons, aNil, poN, poS, Rs.d, Rs.sl, vB, List.cons_append, List.nil_append, List.append_nil, List.replicate_zero, List.replicate_succ, List.getElem?_cons_zero, List.getElem?_cons_succ, List.set_cons_zero, List.set_cons_succ, List.length_cons, List.length_nil, opLen, lenD, opList, opAdd, opSub, opMul, opMod, opDiv, opPow, opMin, opMax, opIx, opSl, cmpB, cEq, cNe, cIsN, cNotN, truD, tgN, tgT, setAll, isKd, opFind, opFind3, opStarts, opStarts3, Nat.reduceLT, Nat.reduceAdd, Nat.reduceSub, Nat.reduceLeDiff, Int.reduceLT, Int.reduceLE, Int.reduceNeg, reduceIte, and_self, true_and, and_true, decide_true, decide_false, Int.toNat_natCast, e0, gs_led, q1, q2, q3, q4, q5, wh, Bool.not_true]
  have f' : forL (tgN 5) l1_law_leads (rng 0 n) [.sh (wob L T), .bo (tabD T), .sh (.str L), .sh (.str u), .sh (.str v), .un, .un, .un] = _ := f
  have zl : ((tabD T).length : Int) = (n : Int) := by rw [tabD_len, hl]
  have im : (n : Int) ≤ 1000000 ∧ -1000000 ≤ (n : Int) := by omega
  unfold g_law_leads b_law_leads
  unfold wob at f' ⊢
  simp (disch := first | omega | assumption) only [if_pos, if_neg, decide_eq_true, decide_eq_false, atI_of, cutL_take, cutL_drop, cutL_mid, ge_iff_le, gt_iff_lt, Int.reduceToNat, Int.toNat_zero, Int.toNat_one, Bool.not_true, Bool.not_false, szl, fMaxD, fEnS, sStuck, fLenS, cGtA, sAppQ, sSetQ, sForT, forTL, opSortT, fDItems, fDKeys, fLcO, D.key, fDNew, fDGet, sDPutV, fDSet, fRg3, fChV, fSortL, frL, frS, fSortB, sRem, sqAt, eIxI, fItm, fItV, chS, sItC, sItA, sItI, sItS, fTmp, Sl.mut, Sl.th, O.d, sqD, D.atm, sTryR, fSq, aConsF, aNilF, eO, sTgF, setFd, Fd.sl, opJoinRev, fLRev, runDef, runDefI, ioAt, insA, chL, getO, setO, getL, setL, obAt, eFd, eFV, eFB, fFld, fMeth, fMethI, fMake, fCallI, aHere, fIsO, sFldS, setF, Rs.fd, Fd.d, O.d, fMethD, chF, sAppF, fPopF, fPop0, fPop1, sIns, sRetI, sRetNI, fZip, fML, opAny, opAll, opSorted, opMaxL, opMinL, opRfind, opCount, List.map_cons, List.map_nil, cInA, cNinA, inD, itD, fItA, eItA, cLtA, cLeA, fRr1, fRr2, opInt, sPar, fCallD, fRaise0, fRaise1, sTryAs, sTry, aftr, noX, allEq_const, fXf, fXi, fLc, lcL, unE, tYs, Vs.ret, xLock, inis, bof, sNil, sSeq, sAsg, sRet, sRetV, sRetN, sIf, sDrop, sTg, sFor, sBrk, sCnt, sApp, sExt, sOwn, sSetI, opSetI, sLock, unlk, sbnd, bnd, fOp, fCh, fCl, fCall, fLst, fTup, fSl, fIf, fAnd, fOr, fNot, fTru, fAndV, fOrV, fNotV, fNeg, fIsi, fM1, fM2, fRg1, fRg2, fEn, fRev, fSg, fTp, fIt, eIt, eB, eV, eC, frz, shm, aCons, aNil, poN, poS, Rs.d, Rs.sl, vB, List.cons_append, List.nil_append, List.append_nil, List.replicate_zero, List.replicate_succ, List.getElem?_cons_zero, List.getElem?_cons_succ, List.set_cons_zero, List.set_cons_succ, List.length_cons, List.length_nil, opLen, lenD, opList, opAdd, opSub, opMul, opMod, opDiv, opPow, opMin, opMax, opIx, opSl, cmpB, cEq, cNe, cIsN, cNotN, truD, tgN, tgT, setAll, isKd, opFind, opFind3, opStarts, opStarts3, Nat.reduceLT, Nat.reduceAdd, Nat.reduceSub, Nat.reduceLeDiff, Int.reduceLT, Int.reduceLE, Int.reduceNeg, reduceIte, and_self, true_and, and_true, decide_true, decide_false, Int.toNat_natCast, zl, im, f']

/-! k61 -/
theorem law_true : LawTrue g_law := fun ns hns _ => by
  unfold g_law
  refine run_fin ?_
  obtain ⟨c0, h0⟩ : ∃ c, c = c15 ns 0 := ⟨_, rfl⟩
  have k0 := e_cell ns 0
  have r0 := c15_lo ns 0
  rw [← h0] at k0 r0
  obtain ⟨C1, hC1⟩ : ∃ c, c = c15 ns 1 := ⟨_, rfl⟩
  have k1 := e_cell ns 1
  have r1 := c15_lo ns 1
  rw [← hC1] at k1 r1
  obtain ⟨C2, hC2⟩ : ∃ c, c = c15 ns 2 := ⟨_, rfl⟩
  have k2 := e_cell ns 2
  have r2 := c15_lo ns 2
  rw [← hC2] at k2 r2
  have k0' : g_law_cell_at [.scr ns, .int 0] = some (.rt (.sh (.int c0))) := k0
  have k1' : g_law_cell_at [.scr ns, .int 1] = some (.rt (.sh (.int C1))) := k1
  have k2' : g_law_cell_at [.scr ns, .int 2] = some (.rt (.sh (.int C2))) := k2
  obtain ⟨m, hm⟩ : ∃ m : Nat, (1 : Int) + c0 % 6 = (m : Int) := ⟨(1 + c0 % 6).toNat, by omega⟩
  obtain ⟨n, hn⟩ : ∃ n : Nat, (1 : Int) + c0 / 6 % 8 = (n : Int) := ⟨(1 + c0 / 6 % 8).toNat, by omega⟩
  have hm2 : 1 ≤ m ∧ m ≤ 6 := by omega
  have hn2 : 1 ≤ n ∧ n ≤ 8 := by omega
  obtain ⟨L, e1, hLm, hL⟩ := e_letters (c0 / 48) m (by omega)
  obtain ⟨T, e2, hT⟩ := e_rows ns n m (by omega) hn2.2 hm2.2
  rw [← hLm] at hT e2
  obtain ⟨m1, hm1, m1l⟩ : ∃ m : Nat, C1 % 21 = (m : Int) ∧ m ≤ 20 := ⟨(C1 % 21).toNat, by omega, by omega⟩
  obtain ⟨m2, hm2', m2l⟩ : ∃ m : Nat, C2 % 21 = (m : Int) ∧ m ≤ 20 := ⟨(C2 % 21).toNat, by omega, by omega⟩
  obtain ⟨u, u1, u2, u3⟩ := e_word L (C1 * 48271 ^ 3 % 10 ^ 15) m1 (by omega) (by omega) (by omega)
  obtain ⟨v, v1, v2, v3⟩ := e_word L (C2 * 69621 ^ 3 % 10 ^ 15) m2 (by omega) (by omega) (by omega)
  have lT := hT.len
  -- the first row's first room
  match T, hT, lT, e2 with
  | [], _, lT, _ => exact absurd lT (by simp; omega)
  | rw0 :: T1, hT, lT, e2 =>
  have row0 := hT.row rw0 List.mem_cons_self
  match rw0, hT, lT, e2, row0 with
  | [], _, _, _, row0 => exact absurd row0.1 (by simp; omega)
  | x0 :: r0', hT, lT, e2, row0 =>
  obtain ⟨T, hTT⟩ : ∃ T, T = (x0 :: r0') :: T1 := ⟨_, rfl⟩
  rw [← hTT] at hT lT e2
  have okT' := okE_tab T
  have evT := eqv_self (.lst (tabD T))
  have wiS := e_World_initS hT hn2.1 hn2.2 hL (by omega) (by omega)
  have wiT := e_World_init hT hn2.1 hn2.2 hL (by omega) (by omega)
  have told := e_toldQ L T (by omega)
  have ld1 := e_leads hT hn2.2 u3 v3 (by omega) (by omega)
  have ld2 := e_leads hT hn2.2 v3 u3 (by omega) (by omega)
  have lit := e_law_is_table hT (by omega) (by omega)
  have ledn := e_led (r := n - 1) hT (by omega) u3
  have dT := tabF_d T
  have fr : rowI (tabF T) = some (T.map rI) := tabF_rows T
  have nosW := wob_nos L T
  have rne : T.map rI ≠ [] := by rw [hTT]; simp
  have tF : tabF T = .ow (.int (x0 : Int) :: nD r0') :: tabF T1 := by rw [hTT]; rfl
  have tFl : (tabF T1).length ≤ 8 := by
    have : T.length = T1.length + 1 := by rw [hTT]; rfl
    unfold tabF
    rw [List.length_map]
    omega
  have r0l : (nD r0').length ≤ 8 := by
    have := row0.1
    rw [List.length_cons] at this
    rw [nD_len]
    omega
  have wh : ∀ z : Int, g_law_whole [.int z] = some (.rt (.sh (.bl true))) := fun z => by
    unfold g_law_whole b_law_whole
    simp (disch := first | omega | assumption) only [if_pos, if_neg, decide_eq_true, decide_eq_false, atI_of, cutL_take, cutL_drop, cutL_mid, ge_iff_le, gt_iff_lt, Int.reduceToNat, Int.toNat_zero, Int.toNat_one, Bool.not_true, Bool.not_false, szl, fMaxD, fEnS, sStuck, fLenS, cGtA, sAppQ, sSetQ, sForT, forTL, opSortT, fDItems, fDKeys, fLcO, D.key, fDNew, fDGet, sDPutV, fDSet, fRg3, fChV, fSortL, frL, frS, fSortB, sRem, sqAt, eIxI, fItm, fItV, chS, sItC, sItA, sItI, sItS, fTmp, Sl.mut, Sl.th, O.d, sqD, D.atm, sTryR, fSq, aConsF, aNilF, eO, sTgF, setFd, Fd.sl, opJoinRev, fLRev, runDef, runDefI, ioAt, insA, chL, getO, setO, getL, setL, obAt, eFd, eFV, eFB, fFld, fMeth, fMethI, fMake, fCallI, aHere, fIsO, sFldS, setF, Rs.fd, Fd.d, O.d, fMethD, chF, sAppF, fPopF, fPop0, fPop1, sIns, sRetI, sRetNI, fZip, fML, opAny, opAll, opSorted, opMaxL, opMinL, opRfind, opCount, List.map_cons, List.map_nil, cInA, cNinA, inD, itD, fItA, eItA, cLtA, cLeA, fRr1, fRr2, opInt, sPar, fCallD, fRaise0, fRaise1, sTryAs, sTry, aftr, noX, allEq_const, fXf, fXi, fLc, lcL, unE, tYs, Vs.ret, xLock, inis, bof, sNil, sSeq, sAsg, sRet, sRetV, sRetN, sIf, sDrop, sTg, sFor, sBrk, sCnt, sApp, sExt, sOwn, sSetI, opSetI, sLock, unlk, sbnd, bnd, fOp, fCh, fCl, fCall, fLst, fTup, fSl, fIf, fAnd, fOr, fNot, fTru, fAndV, fOrV, fNotV, fNeg, fIsi, fM1, fM2, fRg1, fRg2, fEn, fRev, fSg, fTp, fIt, eIt, eB, eV, eC, frz, shm, aCons, aNil, poN, poS, Rs.d, Rs.sl, vB, List.cons_append, List.nil_append, List.append_nil, List.replicate_zero, List.replicate_succ, List.getElem?_cons_zero, List.getElem?_cons_succ, List.set_cons_zero, List.set_cons_succ, List.length_cons, List.length_nil, opLen, lenD, opList, opAdd, opSub, opMul, opMod, opDiv, opPow, opMin, opMax, opIx, opSl, cmpB, cEq, cNe, cIsN, cNotN, truD, tgN, tgT, setAll, isKd, opFind, opFind3, opStarts, opStarts3, Nat.reduceLT, Nat.reduceAdd, Nat.reduceSub, Nat.reduceLeDiff, Int.reduceLT, Int.reduceLE, Int.reduceNeg, reduceIte, and_self, true_and, and_true, decide_true, decide_false, Int.toNat_natCast]
    try rfl
  have rm : g_World_rooms [wob L T] = some (.rt (.sh (.int (n : Int)))) := by
    unfold g_World_rooms b_World_rooms wob
    simp (disch := first | omega | assumption) only [if_pos, if_neg, decide_eq_true, decide_eq_false, atI_of, cutL_take, cutL_drop, cutL_mid, ge_iff_le, gt_iff_lt, Int.reduceToNat, Int.toNat_zero, Int.toNat_one, Bool.not_true, Bool.not_false, szl, fMaxD, fEnS, sStuck, fLenS, cGtA, sAppQ, sSetQ, sForT, forTL, opSortT, fDItems, fDKeys, fLcO, D.key, fDNew, fDGet, sDPutV, fDSet, fRg3, fChV, fSortL, frL, frS, fSortB, sRem, sqAt, eIxI, fItm, fItV, chS, sItC, sItA, sItI, sItS, fTmp, Sl.mut, Sl.th, O.d, sqD, D.atm, sTryR, fSq, aConsF, aNilF, eO, sTgF, setFd, Fd.sl, opJoinRev, fLRev, runDef, runDefI, ioAt, insA, chL, getO, setO, getL, setL, obAt, eFd, eFV, eFB, fFld, fMeth, fMethI, fMake, fCallI, aHere, fIsO, sFldS, setF, Rs.fd, Fd.d, O.d, fMethD, chF, sAppF, fPopF, fPop0, fPop1, sIns, sRetI, sRetNI, fZip, fML, opAny, opAll, opSorted, opMaxL, opMinL, opRfind, opCount, List.map_cons, List.map_nil, cInA, cNinA, inD, itD, fItA, eItA, cLtA, cLeA, fRr1, fRr2, opInt, sPar, fCallD, fRaise0, fRaise1, sTryAs, sTry, aftr, noX, allEq_const, fXf, fXi, fLc, lcL, unE, tYs, Vs.ret, xLock, inis, bof, sNil, sSeq, sAsg, sRet, sRetV, sRetN, sIf, sDrop, sTg, sFor, sBrk, sCnt, sApp, sExt, sOwn, sSetI, opSetI, sLock, unlk, sbnd, bnd, fOp, fCh, fCl, fCall, fLst, fTup, fSl, fIf, fAnd, fOr, fNot, fTru, fAndV, fOrV, fNotV, fNeg, fIsi, fM1, fM2, fRg1, fRg2, fEn, fRev, fSg, fTp, fIt, eIt, eB, eV, eC, frz, shm, aCons, aNil, poN, poS, Rs.d, Rs.sl, vB, List.cons_append, List.nil_append, List.append_nil, List.replicate_zero, List.replicate_succ, List.getElem?_cons_zero, List.getElem?_cons_succ, List.set_cons_zero, List.set_cons_succ, List.length_cons, List.length_nil, opLen, lenD, opList, opAdd, opSub, opMul, opMod, opDiv, opPow, opMin, opMax, opIx, opSl, cmpB, cEq, cNe, cIsN, cNotN, truD, tgN, tgT, setAll, isKd, opFind, opFind3, opStarts, opStarts3, Nat.reduceLT, Nat.reduceAdd, Nat.reduceSub, Nat.reduceLeDiff, Int.reduceLT, Int.reduceLE, Int.reduceNeg, reduceIte, and_self, true_and, and_true, decide_true, decide_false, Int.toNat_natCast, fld_table, tabD_len, lT]
    try rfl
  obtain ⟨N, hN⟩ : ∃ N : Int, N = (n : Int) := ⟨_, rfl⟩
  have N1 : 1 ≤ N ∧ N ≤ 8 := by omega
  have eN : ((n - 1 : Nat) : Int) = N - 1 := by omega
  rw [eN] at ledn
  rw [← hN] at rm lit e2 hn
  obtain ⟨Z, hZ⟩ : ∃ Z : Int, Z = ((x0 : Int) + 1) % N := ⟨_, rfl⟩
  have Lb : (L.length : Int) = (m : Int) := by omega
  have bC1 : Builtin.Int.intBits C1 + Builtin.Int.intBits (48271 ^ 3) ≤ 134217728 := bits15 r1.1 r1.2 (by decide)
  have bC2 : Builtin.Int.intBits C2 + Builtin.Int.intBits (69621 ^ 3) ≤ 134217728 := bits15 r2.1 r2.2 (by decide)
  obtain ⟨TD, hTD⟩ : ∃ X, X = tabD T := ⟨_, rfl⟩
  obtain ⟨SD, hSD⟩ : ∃ X, X = scD T := ⟨_, rfl⟩
  have TDl : TD.length = n := by rw [hTD, tabD_len, lT]
  have sc : (T.map rI).map D.scr = SD := by rw [hSD]; rfl
  rw [← hSD, ← hTD] at wiS
  rw [← hTD] at okT' evT wiT dT lit e2 ld1 ld2
  unfold wob at told ld1 ld2 ledn nosW rm
  rw [← hTD] at told ld1 ld2 ledn nosW rm
  have ix0 : ∀ k : Nat, ixN (k + 1) 0 = some 0 := fun k => by unfold ixN; rw [if_pos (by omega), if_pos (by omega)]; rfl
  unfold b_law
  refine fin_seq (by simp (disch := first | omega | assumption) only [if_pos, if_neg, decide_eq_true, decide_eq_false, atI_of, cutL_take, cutL_drop, cutL_mid, ge_iff_le, gt_iff_lt, Int.reduceToNat, Int.toNat_zero, Int.toNat_one, Bool.not_true, Bool.not_false, szl, fMaxD, fEnS, sStuck, fLenS, cGtA, sAppQ, sSetQ, sForT, forTL, opSortT, fDItems, fDKeys, fLcO, D.key, fDNew, fDGet, sDPutV, fDSet, fRg3, fChV, fSortL, frL, frS, fSortB, sRem, sqAt, eIxI, fItm, fItV, chS, sItC, sItA, sItI, sItS, fTmp, Sl.mut, Sl.th, O.d, sqD, D.atm, sTryR, fSq, aConsF, aNilF, eO, sTgF, setFd, Fd.sl, opJoinRev, fLRev, runDef, runDefI, ioAt, insA, chL, getO, setO, getL, setL, obAt, eFd, eFV, eFB, fFld, fMeth, fMethI, fMake, fCallI, aHere, fIsO, sFldS, setF, Rs.fd, Fd.d, O.d, fMethD, chF, sAppF, fPopF, fPop0, fPop1, sIns, sRetI, sRetNI, fZip, fML, opAny, opAll, opSorted, opMaxL, opMinL, opRfind, opCount, List.map_cons, List.map_nil, cInA, cNinA, inD, itD, fItA, eItA, cLtA, cLeA, fRr1, fRr2, opInt, sPar, fCallD, fRaise0, fRaise1, sTryAs, sTry, aftr, noX, allEq_const, fXf, fXi, fLc, lcL, unE, tYs, Vs.ret, xLock, inis, bof, sNil, sSeq, sAsg, sRet, sRetV, sRetN, sIf, sDrop, sTg, sFor, sBrk, sCnt, sApp, sExt, sOwn, sSetI, opSetI, sLock, unlk, sbnd, bnd, fOp, fCh, fCl, fCall, fLst, fTup, fSl, fIf, fAnd, fOr, fNot, fTru, fAndV, fOrV, fNotV, fNeg, fIsi, fM1, fM2, fRg1, fRg2, fEn, fRev, fSg, fTp, fIt, eIt, eB, eV, eC, frz, shm, aCons, aNil, poN, poS, Rs.d, Rs.sl, vB, List.cons_append, List.nil_append, List.append_nil, List.replicate_zero, List.replicate_succ, List.getElem?_cons_zero, List.getElem?_cons_succ, List.set_cons_zero, List.set_cons_succ, List.length_cons, List.length_nil, opLen, lenD, opList, opAdd, opSub, opMul, opMod, opDiv, opPow, opMin, opMax, opIx, opSl, cmpB, cEq, cNe, cIsN, cNotN, truD, tgN, tgT, setAll, isKd, opFind, opFind3, opStarts, opStarts3, Nat.reduceLT, Nat.reduceAdd, Nat.reduceSub, Nat.reduceLeDiff, Int.reduceLT, Int.reduceLE, Int.reduceNeg, reduceIte, and_self, true_and, and_true, decide_true, decide_false, Int.toNat_natCast, k0']; exact rfl) ?_
  refine fin_seq (by simp (disch := first | omega | assumption) only [if_pos, if_neg, decide_eq_true, decide_eq_false, atI_of, cutL_take, cutL_drop, cutL_mid, ge_iff_le, gt_iff_lt, Int.reduceToNat, Int.toNat_zero, Int.toNat_one, Bool.not_true, Bool.not_false, szl, fMaxD, fEnS, sStuck, fLenS, cGtA, sAppQ, sSetQ, sForT, forTL, opSortT, fDItems, fDKeys, fLcO, D.key, fDNew, fDGet, sDPutV, fDSet, fRg3, fChV, fSortL, frL, frS, fSortB, sRem, sqAt, eIxI, fItm, fItV, chS, sItC, sItA, sItI, sItS, fTmp, Sl.mut, Sl.th, O.d, sqD, D.atm, sTryR, fSq, aConsF, aNilF, eO, sTgF, setFd, Fd.sl, opJoinRev, fLRev, runDef, runDefI, ioAt, insA, chL, getO, setO, getL, setL, obAt, eFd, eFV, eFB, fFld, fMeth, fMethI, fMake, fCallI, aHere, fIsO, sFldS, setF, Rs.fd, Fd.d, O.d, fMethD, chF, sAppF, fPopF, fPop0, fPop1, sIns, sRetI, sRetNI, fZip, fML, opAny, opAll, opSorted, opMaxL, opMinL, opRfind, opCount, List.map_cons, List.map_nil, cInA, cNinA, inD, itD, fItA, eItA, cLtA, cLeA, fRr1, fRr2, opInt, sPar, fCallD, fRaise0, fRaise1, sTryAs, sTry, aftr, noX, allEq_const, fXf, fXi, fLc, lcL, unE, tYs, Vs.ret, xLock, inis, bof, sNil, sSeq, sAsg, sRet, sRetV, sRetN, sIf, sDrop, sTg, sFor, sBrk, sCnt, sApp, sExt, sOwn, sSetI, opSetI, sLock, unlk, sbnd, bnd, fOp, fCh, fCl, fCall, fLst, fTup, fSl, fIf, fAnd, fOr, fNot, fTru, fAndV, fOrV, fNotV, fNeg, fIsi, fM1, fM2, fRg1, fRg2, fEn, fRev, fSg, fTp, fIt, eIt, eB, eV, eC, frz, shm, aCons, aNil, poN, poS, Rs.d, Rs.sl, vB, List.cons_append, List.nil_append, List.append_nil, List.replicate_zero, List.replicate_succ, List.getElem?_cons_zero, List.getElem?_cons_succ, List.set_cons_zero, List.set_cons_succ, List.length_cons, List.length_nil, opLen, lenD, opList, opAdd, opSub, opMul, opMod, opDiv, opPow, opMin, opMax, opIx, opSl, cmpB, cEq, cNe, cIsN, cNotN, truD, tgN, tgT, setAll, isKd, opFind, opFind3, opStarts, opStarts3, Nat.reduceLT, Nat.reduceAdd, Nat.reduceSub, Nat.reduceLeDiff, Int.reduceLT, Int.reduceLE, Int.reduceNeg, reduceIte, and_self, true_and, and_true, decide_true, decide_false, Int.toNat_natCast, hm, e1]; exact rfl) ?_
  refine fin_seq (by simp (disch := first | omega | assumption) only [if_pos, if_neg, decide_eq_true, decide_eq_false, atI_of, cutL_take, cutL_drop, cutL_mid, ge_iff_le, gt_iff_lt, Int.reduceToNat, Int.toNat_zero, Int.toNat_one, Bool.not_true, Bool.not_false, szl, fMaxD, fEnS, sStuck, fLenS, cGtA, sAppQ, sSetQ, sForT, forTL, opSortT, fDItems, fDKeys, fLcO, D.key, fDNew, fDGet, sDPutV, fDSet, fRg3, fChV, fSortL, frL, frS, fSortB, sRem, sqAt, eIxI, fItm, fItV, chS, sItC, sItA, sItI, sItS, fTmp, Sl.mut, Sl.th, O.d, sqD, D.atm, sTryR, fSq, aConsF, aNilF, eO, sTgF, setFd, Fd.sl, opJoinRev, fLRev, runDef, runDefI, ioAt, insA, chL, getO, setO, getL, setL, obAt, eFd, eFV, eFB, fFld, fMeth, fMethI, fMake, fCallI, aHere, fIsO, sFldS, setF, Rs.fd, Fd.d, O.d, fMethD, chF, sAppF, fPopF, fPop0, fPop1, sIns, sRetI, sRetNI, fZip, fML, opAny, opAll, opSorted, opMaxL, opMinL, opRfind, opCount, List.map_cons, List.map_nil, cInA, cNinA, inD, itD, fItA, eItA, cLtA, cLeA, fRr1, fRr2, opInt, sPar, fCallD, fRaise0, fRaise1, sTryAs, sTry, aftr, noX, allEq_const, fXf, fXi, fLc, lcL, unE, tYs, Vs.ret, xLock, inis, bof, sNil, sSeq, sAsg, sRet, sRetV, sRetN, sIf, sDrop, sTg, sFor, sBrk, sCnt, sApp, sExt, sOwn, sSetI, opSetI, sLock, unlk, sbnd, bnd, fOp, fCh, fCl, fCall, fLst, fTup, fSl, fIf, fAnd, fOr, fNot, fTru, fAndV, fOrV, fNotV, fNeg, fIsi, fM1, fM2, fRg1, fRg2, fEn, fRev, fSg, fTp, fIt, eIt, eB, eV, eC, frz, shm, aCons, aNil, poN, poS, Rs.d, Rs.sl, vB, List.cons_append, List.nil_append, List.append_nil, List.replicate_zero, List.replicate_succ, List.getElem?_cons_zero, List.getElem?_cons_succ, List.set_cons_zero, List.set_cons_succ, List.length_cons, List.length_nil, opLen, lenD, opList, opAdd, opSub, opMul, opMod, opDiv, opPow, opMin, opMax, opIx, opSl, cmpB, cEq, cNe, cIsN, cNotN, truD, tgN, tgT, setAll, isKd, opFind, opFind3, opStarts, opStarts3, Nat.reduceLT, Nat.reduceAdd, Nat.reduceSub, Nat.reduceLeDiff, Int.reduceLT, Int.reduceLE, Int.reduceNeg, reduceIte, and_self, true_and, and_true, decide_true, decide_false, Int.toNat_natCast, hn]; exact rfl) ?_
  refine fin_seq (by simp (disch := first | omega | assumption) only [if_pos, if_neg, decide_eq_true, decide_eq_false, atI_of, cutL_take, cutL_drop, cutL_mid, ge_iff_le, gt_iff_lt, Int.reduceToNat, Int.toNat_zero, Int.toNat_one, Bool.not_true, Bool.not_false, szl, fMaxD, fEnS, sStuck, fLenS, cGtA, sAppQ, sSetQ, sForT, forTL, opSortT, fDItems, fDKeys, fLcO, D.key, fDNew, fDGet, sDPutV, fDSet, fRg3, fChV, fSortL, frL, frS, fSortB, sRem, sqAt, eIxI, fItm, fItV, chS, sItC, sItA, sItI, sItS, fTmp, Sl.mut, Sl.th, O.d, sqD, D.atm, sTryR, fSq, aConsF, aNilF, eO, sTgF, setFd, Fd.sl, opJoinRev, fLRev, runDef, runDefI, ioAt, insA, chL, getO, setO, getL, setL, obAt, eFd, eFV, eFB, fFld, fMeth, fMethI, fMake, fCallI, aHere, fIsO, sFldS, setF, Rs.fd, Fd.d, O.d, fMethD, chF, sAppF, fPopF, fPop0, fPop1, sIns, sRetI, sRetNI, fZip, fML, opAny, opAll, opSorted, opMaxL, opMinL, opRfind, opCount, List.map_cons, List.map_nil, cInA, cNinA, inD, itD, fItA, eItA, cLtA, cLeA, fRr1, fRr2, opInt, sPar, fCallD, fRaise0, fRaise1, sTryAs, sTry, aftr, noX, allEq_const, fXf, fXi, fLc, lcL, unE, tYs, Vs.ret, xLock, inis, bof, sNil, sSeq, sAsg, sRet, sRetV, sRetN, sIf, sDrop, sTg, sFor, sBrk, sCnt, sApp, sExt, sOwn, sSetI, opSetI, sLock, unlk, sbnd, bnd, fOp, fCh, fCl, fCall, fLst, fTup, fSl, fIf, fAnd, fOr, fNot, fTru, fAndV, fOrV, fNotV, fNeg, fIsi, fM1, fM2, fRg1, fRg2, fEn, fRev, fSg, fTp, fIt, eIt, eB, eV, eC, frz, shm, aCons, aNil, poN, poS, Rs.d, Rs.sl, vB, List.cons_append, List.nil_append, List.append_nil, List.replicate_zero, List.replicate_succ, List.getElem?_cons_zero, List.getElem?_cons_succ, List.set_cons_zero, List.set_cons_succ, List.length_cons, List.length_nil, opLen, lenD, opList, opAdd, opSub, opMul, opMod, opDiv, opPow, opMin, opMax, opIx, opSl, cmpB, cEq, cNe, cIsN, cNotN, truD, tgN, tgT, setAll, isKd, opFind, opFind3, opStarts, opStarts3, Nat.reduceLT, Nat.reduceAdd, Nat.reduceSub, Nat.reduceLeDiff, Int.reduceLT, Int.reduceLE, Int.reduceNeg, reduceIte, and_self, true_and, and_true, decide_true, decide_false, Int.toNat_natCast, ← hTD, e2]; exact rfl) ?_
  obtain ⟨j5, f5⟩ := lcLO_ow (f := tgN 11) (te := fCl opList (aCons (eB 11) aNil)) (vs := [11]) (fun (_ : Unit) => [.sh (.scr ns), .sh (.int c0), .sh (.str L), .sh (.int N), .lk TD, .un, .un, .un, .un, .un, .un, .un]) (fun r => D.lst (nD r)) nD T [] () fun r _ _ => ⟨_, rfl, [.sh (.scr ns), .sh (.int c0), .sh (.str L), .sh (.int N), .lk TD, .un, .un, .un, .un, .un, .un, .sh (.lst (nD r))], by simp (disch := first | omega | assumption) only [if_pos, if_neg, decide_eq_true, decide_eq_false, atI_of, cutL_take, cutL_drop, cutL_mid, ge_iff_le, gt_iff_lt, Int.reduceToNat, Int.toNat_zero, Int.toNat_one, Bool.not_true, Bool.not_false, szl, fMaxD, fEnS, sStuck, fLenS, cGtA, sAppQ, sSetQ, sForT, forTL, opSortT, fDItems, fDKeys, fLcO, D.key, fDNew, fDGet, sDPutV, fDSet, fRg3, fChV, fSortL, frL, frS, fSortB, sRem, sqAt, eIxI, fItm, fItV, chS, sItC, sItA, sItI, sItS, fTmp, Sl.mut, Sl.th, O.d, sqD, D.atm, sTryR, fSq, aConsF, aNilF, eO, sTgF, setFd, Fd.sl, opJoinRev, fLRev, runDef, runDefI, ioAt, insA, chL, getO, setO, getL, setL, obAt, eFd, eFV, eFB, fFld, fMeth, fMethI, fMake, fCallI, aHere, fIsO, sFldS, setF, Rs.fd, Fd.d, O.d, fMethD, chF, sAppF, fPopF, fPop0, fPop1, sIns, sRetI, sRetNI, fZip, fML, opAny, opAll, opSorted, opMaxL, opMinL, opRfind, opCount, List.map_cons, List.map_nil, cInA, cNinA, inD, itD, fItA, eItA, cLtA, cLeA, fRr1, fRr2, opInt, sPar, fCallD, fRaise0, fRaise1, sTryAs, sTry, aftr, noX, allEq_const, fXf, fXi, fLc, lcL, unE, tYs, Vs.ret, xLock, inis, bof, sNil, sSeq, sAsg, sRet, sRetV, sRetN, sIf, sDrop, sTg, sFor, sBrk, sCnt, sApp, sExt, sOwn, sSetI, opSetI, sLock, unlk, sbnd, bnd, fOp, fCh, fCl, fCall, fLst, fTup, fSl, fIf, fAnd, fOr, fNot, fTru, fAndV, fOrV, fNotV, fNeg, fIsi, fM1, fM2, fRg1, fRg2, fEn, fRev, fSg, fTp, fIt, eIt, eB, eV, eC, frz, shm, aCons, aNil, poN, poS, Rs.d, Rs.sl, vB, List.cons_append, List.nil_append, List.append_nil, List.replicate_zero, List.replicate_succ, List.getElem?_cons_zero, List.getElem?_cons_succ, List.set_cons_zero, List.set_cons_succ, List.length_cons, List.length_nil, opLen, lenD, opList, opAdd, opSub, opMul, opMod, opDiv, opPow, opMin, opMax, opIx, opSl, cmpB, cEq, cNe, cIsN, cNotN, truD, tgN, tgT, setAll, isKd, opFind, opFind3, opStarts, opStarts3, Nat.reduceLT, Nat.reduceAdd, Nat.reduceSub, Nat.reduceLeDiff, Int.reduceLT, Int.reduceLE, Int.reduceNeg, reduceIte, and_self, true_and, and_true, decide_true, decide_false, Int.toNat_natCast], (), rfl⟩
  rw [List.nil_append] at f5
  have f5' : lcLO (tgN 11) tYs (fCl opList (aCons (eB 11) aNil)) [11] (tabD T) [] [.sh (.scr ns), .sh (.int c0), .sh (.str L), .sh (.int N), .lk TD, .un, .un, .un, .un, .un, .un, .un] = some (.ok (.tr (.sq false (tabF T))) [.sh (.scr ns), .sh (.int c0), .sh (.str L), .sh (.int N), .lk TD, .un, .un, .un, .un, .un, .un, .un]) := f5
  rw [← hTD] at f5'
  simp (disch := first | omega | assumption) only [if_pos, if_neg, decide_eq_true, decide_eq_false, atI_of, cutL_take, cutL_drop, cutL_mid, ge_iff_le, gt_iff_lt, Int.reduceToNat, Int.toNat_zero, Int.toNat_one, Bool.not_true, Bool.not_false, szl, fMaxD, fEnS, sStuck, fLenS, cGtA, sAppQ, sSetQ, sForT, forTL, opSortT, fDItems, fDKeys, fLcO, D.key, fDNew, fDGet, sDPutV, fDSet, fRg3, fChV, fSortL, frL, frS, fSortB, sRem, sqAt, eIxI, fItm, fItV, chS, sItC, sItA, sItI, sItS, fTmp, Sl.mut, Sl.th, O.d, sqD, D.atm, sTryR, fSq, aConsF, aNilF, eO, sTgF, setFd, Fd.sl, opJoinRev, fLRev, runDef, runDefI, ioAt, insA, chL, getO, setO, getL, setL, obAt, eFd, eFV, eFB, fFld, fMeth, fMethI, fMake, fCallI, aHere, fIsO, sFldS, setF, Rs.fd, Fd.d, O.d, fMethD, chF, sAppF, fPopF, fPop0, fPop1, sIns, sRetI, sRetNI, fZip, fML, opAny, opAll, opSorted, opMaxL, opMinL, opRfind, opCount, List.map_cons, List.map_nil, cInA, cNinA, inD, itD, fItA, eItA, cLtA, cLeA, fRr1, fRr2, opInt, sPar, fCallD, fRaise0, fRaise1, sTryAs, sTry, aftr, noX, allEq_const, fXf, fXi, fLc, lcL, unE, tYs, Vs.ret, xLock, inis, bof, sNil, sSeq, sAsg, sRet, sRetV, sRetN, sIf, sDrop, sTg, sFor, sBrk, sCnt, sApp, sExt, sOwn, sSetI, opSetI, sLock, unlk, sbnd, bnd, fOp, fCh, fCl, fCall, fLst, fTup, fSl, fIf, fAnd, fOr, fNot, fTru, fAndV, fOrV, fNotV, fNeg, fIsi, fM1, fM2, fRg1, fRg2, fEn, fRev, fSg, fTp, fIt, eIt, eB, eV, eC, frz, shm, aCons, aNil, poN, poS, Rs.d, Rs.sl, vB, List.cons_append, List.nil_append, List.append_nil, List.replicate_zero, List.replicate_succ, List.getElem?_cons_zero, List.getElem?_cons_succ, List.set_cons_zero, List.set_cons_succ, List.length_cons, List.length_nil, opLen, lenD, opList, opAdd, opSub, opMul, opMod, opDiv, opPow, opMin, opMax, opIx, opSl, cmpB, cEq, cNe, cIsN, cNotN, truD, tgN, tgT, setAll, isKd, opFind, opFind3, opStarts, opStarts3, Nat.reduceLT, Nat.reduceAdd, Nat.reduceSub, Nat.reduceLeDiff, Int.reduceLT, Int.reduceLE, Int.reduceNeg, reduceIte, and_self, true_and, and_true, decide_true, decide_false, Int.toNat_natCast] at f5'
  refine fin_seq (e1 := [.sh (.scr ns), .sh (.int c0), .sh (.str L), .sh (.int N), .ow TD, .tr (.sq false (tabF T)), .un, .un, .un, .un, .un, .un]) (by simp (disch := first | omega | assumption) only [if_pos, if_neg, decide_eq_true, decide_eq_false, atI_of, cutL_take, cutL_drop, cutL_mid, ge_iff_le, gt_iff_lt, Int.reduceToNat, Int.toNat_zero, Int.toNat_one, Bool.not_true, Bool.not_false, szl, fMaxD, fEnS, sStuck, fLenS, cGtA, sAppQ, sSetQ, sForT, forTL, opSortT, fDItems, fDKeys, fLcO, D.key, fDNew, fDGet, sDPutV, fDSet, fRg3, fChV, fSortL, frL, frS, fSortB, sRem, sqAt, eIxI, fItm, fItV, chS, sItC, sItA, sItI, sItS, fTmp, Sl.mut, Sl.th, O.d, sqD, D.atm, sTryR, fSq, aConsF, aNilF, eO, sTgF, setFd, Fd.sl, opJoinRev, fLRev, runDef, runDefI, ioAt, insA, chL, getO, setO, getL, setL, obAt, eFd, eFV, eFB, fFld, fMeth, fMethI, fMake, fCallI, aHere, fIsO, sFldS, setF, Rs.fd, Fd.d, O.d, fMethD, chF, sAppF, fPopF, fPop0, fPop1, sIns, sRetI, sRetNI, fZip, fML, opAny, opAll, opSorted, opMaxL, opMinL, opRfind, opCount, List.map_cons, List.map_nil, cInA, cNinA, inD, itD, fItA, eItA, cLtA, cLeA, fRr1, fRr2, opInt, sPar, fCallD, fRaise0, fRaise1, sTryAs, sTry, aftr, noX, allEq_const, fXf, fXi, fLc, lcL, unE, tYs, Vs.ret, xLock, inis, bof, sNil, sSeq, sAsg, sRet, sRetV, sRetN, sIf, sDrop, sTg, sFor, sBrk, sCnt, sApp, sExt, sOwn, sSetI, opSetI, sLock, unlk, sbnd, bnd, fOp, fCh, fCl, fCall, fLst, fTup, fSl, fIf, fAnd, fOr, fNot, fTru, fAndV, fOrV, fNotV, fNeg, fIsi, fM1, fM2, fRg1, fRg2, fEn, fRev, fSg, fTp, fIt, eIt, eB, eV, eC, frz, shm, aCons, aNil, poN, poS, Rs.d, Rs.sl, vB, List.cons_append, List.nil_append, List.append_nil, List.replicate_zero, List.replicate_succ, List.getElem?_cons_zero, List.getElem?_cons_succ, List.set_cons_zero, List.set_cons_succ, List.length_cons, List.length_nil, opLen, lenD, opList, opAdd, opSub, opMul, opMod, opDiv, opPow, opMin, opMax, opIx, opSl, cmpB, cEq, cNe, cIsN, cNotN, truD, tgN, tgT, setAll, isKd, opFind, opFind3, opStarts, opStarts3, Nat.reduceLT, Nat.reduceAdd, Nat.reduceSub, Nat.reduceLeDiff, Int.reduceLT, Int.reduceLE, Int.reduceNeg, reduceIte, and_self, true_and, and_true, decide_true, decide_false, Int.toNat_natCast, fLcO, f5']) ?_
  obtain ⟨F, hF⟩ : ∃ F, F = tabF T := ⟨_, rfl⟩
  rw [← hF] at dT fr tF told ⊢
  have lk := lockQ_ev (i := 5) (m := shm (frz (fMake 0 g_World_init (aCons (eV 2) (aCons (eB 5) aNil))))) (e := [.sh (.scr ns), .sh (.int c0), .sh (.str L), .sh (.int N), .ow TD, .tr (.sq false F), .un, .un, .un, .un, .un, .un]) (fs := F) (rows := T.map rI) (d := .ob 0 [.str L, .lst TD]) rfl fr rne (by rw [sc]; simp (disch := first | omega | assumption) only [if_pos, if_neg, decide_eq_true, decide_eq_false, atI_of, cutL_take, cutL_drop, cutL_mid, ge_iff_le, gt_iff_lt, Int.reduceToNat, Int.toNat_zero, Int.toNat_one, Bool.not_true, Bool.not_false, szl, fMaxD, fEnS, sStuck, fLenS, cGtA, sAppQ, sSetQ, sForT, forTL, opSortT, fDItems, fDKeys, fLcO, D.key, fDNew, fDGet, sDPutV, fDSet, fRg3, fChV, fSortL, frL, frS, fSortB, sRem, sqAt, eIxI, fItm, fItV, chS, sItC, sItA, sItI, sItS, fTmp, Sl.mut, Sl.th, O.d, sqD, D.atm, sTryR, fSq, aConsF, aNilF, eO, sTgF, setFd, Fd.sl, opJoinRev, fLRev, runDef, runDefI, ioAt, insA, chL, getO, setO, getL, setL, obAt, eFd, eFV, eFB, fFld, fMeth, fMethI, fMake, fCallI, aHere, fIsO, sFldS, setF, Rs.fd, Fd.d, O.d, fMethD, chF, sAppF, fPopF, fPop0, fPop1, sIns, sRetI, sRetNI, fZip, fML, opAny, opAll, opSorted, opMaxL, opMinL, opRfind, opCount, List.map_cons, List.map_nil, cInA, cNinA, inD, itD, fItA, eItA, cLtA, cLeA, fRr1, fRr2, opInt, sPar, fCallD, fRaise0, fRaise1, sTryAs, sTry, aftr, noX, allEq_const, fXf, fXi, fLc, lcL, unE, tYs, Vs.ret, xLock, inis, bof, sNil, sSeq, sAsg, sRet, sRetV, sRetN, sIf, sDrop, sTg, sFor, sBrk, sCnt, sApp, sExt, sOwn, sSetI, opSetI, sLock, unlk, sbnd, bnd, fOp, fCh, fCl, fCall, fLst, fTup, fSl, fIf, fAnd, fOr, fNot, fTru, fAndV, fOrV, fNotV, fNeg, fIsi, fM1, fM2, fRg1, fRg2, fEn, fRev, fSg, fTp, fIt, eIt, eB, eV, eC, frz, shm, aCons, aNil, poN, poS, Rs.d, Rs.sl, vB, List.cons_append, List.nil_append, List.append_nil, List.replicate_zero, List.replicate_succ, List.getElem?_cons_zero, List.getElem?_cons_succ, List.set_cons_zero, List.set_cons_succ, List.length_cons, List.length_nil, opLen, lenD, opList, opAdd, opSub, opMul, opMod, opDiv, opPow, opMin, opMax, opIx, opSl, cmpB, cEq, cNe, cIsN, cNotN, truD, tgN, tgT, setAll, isKd, opFind, opFind3, opStarts, opStarts3, Nat.reduceLT, Nat.reduceAdd, Nat.reduceSub, Nat.reduceLeDiff, Int.reduceLT, Int.reduceLE, Int.reduceNeg, reduceIte, and_self, true_and, and_true, decide_true, decide_false, Int.toNat_natCast, wiS]) nosW
  refine fin_seq (e1 := [.sh (.scr ns), .sh (.int c0), .sh (.str L), .sh (.int N), .ow TD, .tr (.sq false F), .sh (.ob 0 [.str L, .lst TD]), .un, .un, .un, .un, .un]) (by unfold sAsg sbnd; rw [lk]; simp (disch := first | omega | assumption) only [if_pos, if_neg, decide_eq_true, decide_eq_false, atI_of, cutL_take, cutL_drop, cutL_mid, ge_iff_le, gt_iff_lt, Int.reduceToNat, Int.toNat_zero, Int.toNat_one, Bool.not_true, Bool.not_false, szl, fMaxD, fEnS, sStuck, fLenS, cGtA, sAppQ, sSetQ, sForT, forTL, opSortT, fDItems, fDKeys, fLcO, D.key, fDNew, fDGet, sDPutV, fDSet, fRg3, fChV, fSortL, frL, frS, fSortB, sRem, sqAt, eIxI, fItm, fItV, chS, sItC, sItA, sItI, sItS, fTmp, Sl.mut, Sl.th, O.d, sqD, D.atm, sTryR, fSq, aConsF, aNilF, eO, sTgF, setFd, Fd.sl, opJoinRev, fLRev, runDef, runDefI, ioAt, insA, chL, getO, setO, getL, setL, obAt, eFd, eFV, eFB, fFld, fMeth, fMethI, fMake, fCallI, aHere, fIsO, sFldS, setF, Rs.fd, Fd.d, O.d, fMethD, chF, sAppF, fPopF, fPop0, fPop1, sIns, sRetI, sRetNI, fZip, fML, opAny, opAll, opSorted, opMaxL, opMinL, opRfind, opCount, List.map_cons, List.map_nil, cInA, cNinA, inD, itD, fItA, eItA, cLtA, cLeA, fRr1, fRr2, opInt, sPar, fCallD, fRaise0, fRaise1, sTryAs, sTry, aftr, noX, allEq_const, fXf, fXi, fLc, lcL, unE, tYs, Vs.ret, xLock, inis, bof, sNil, sSeq, sAsg, sRet, sRetV, sRetN, sIf, sDrop, sTg, sFor, sBrk, sCnt, sApp, sExt, sOwn, sSetI, opSetI, sLock, unlk, sbnd, bnd, fOp, fCh, fCl, fCall, fLst, fTup, fSl, fIf, fAnd, fOr, fNot, fTru, fAndV, fOrV, fNotV, fNeg, fIsi, fM1, fM2, fRg1, fRg2, fEn, fRev, fSg, fTp, fIt, eIt, eB, eV, eC, frz, shm, aCons, aNil, poN, poS, Rs.d, Rs.sl, vB, List.cons_append, List.nil_append, List.append_nil, List.replicate_zero, List.replicate_succ, List.getElem?_cons_zero, List.getElem?_cons_succ, List.set_cons_zero, List.set_cons_succ, List.length_cons, List.length_nil, opLen, lenD, opList, opAdd, opSub, opMul, opMod, opDiv, opPow, opMin, opMax, opIx, opSl, cmpB, cEq, cNe, cIsN, cNotN, truD, tgN, tgT, setAll, isKd, opFind, opFind3, opStarts, opStarts3, Nat.reduceLT, Nat.reduceAdd, Nat.reduceSub, Nat.reduceLeDiff, Int.reduceLT, Int.reduceLE, Int.reduceNeg, reduceIte, and_self, true_and, and_true, decide_true, decide_false, Int.toNat_natCast]) ?_
  refine fin_seq (e1 := [.sh (.scr ns), .sh (.int c0), .sh (.str L), .sh (.int N), .ow TD, .tr (.sq false F), .sh (.ob 0 [.str L, .lst TD]), .un, .un, .un, .un, .un]) (by unfold i1_law; simp (disch := first | omega | assumption) only [if_pos, if_neg, decide_eq_true, decide_eq_false, atI_of, cutL_take, cutL_drop, cutL_mid, ge_iff_le, gt_iff_lt, Int.reduceToNat, Int.toNat_zero, Int.toNat_one, Bool.not_true, Bool.not_false, szl, fMaxD, fEnS, sStuck, fLenS, cGtA, sAppQ, sSetQ, sForT, forTL, opSortT, fDItems, fDKeys, fLcO, D.key, fDNew, fDGet, sDPutV, fDSet, fRg3, fChV, fSortL, frL, frS, fSortB, sRem, sqAt, eIxI, fItm, fItV, chS, sItC, sItA, sItI, sItS, fTmp, Sl.mut, Sl.th, O.d, sqD, D.atm, sTryR, fSq, aConsF, aNilF, eO, sTgF, setFd, Fd.sl, opJoinRev, fLRev, runDef, runDefI, ioAt, insA, chL, getO, setO, getL, setL, obAt, eFd, eFV, eFB, fFld, fMeth, fMethI, fMake, fCallI, aHere, fIsO, sFldS, setF, Rs.fd, Fd.d, O.d, fMethD, chF, sAppF, fPopF, fPop0, fPop1, sIns, sRetI, sRetNI, fZip, fML, opAny, opAll, opSorted, opMaxL, opMinL, opRfind, opCount, List.map_cons, List.map_nil, cInA, cNinA, inD, itD, fItA, eItA, cLtA, cLeA, fRr1, fRr2, opInt, sPar, fCallD, fRaise0, fRaise1, sTryAs, sTry, aftr, noX, allEq_const, fXf, fXi, fLc, lcL, unE, tYs, Vs.ret, xLock, inis, bof, sNil, sSeq, sAsg, sRet, sRetV, sRetN, sIf, sDrop, sTg, sFor, sBrk, sCnt, sApp, sExt, sOwn, sSetI, opSetI, sLock, unlk, sbnd, bnd, fOp, fCh, fCl, fCall, fLst, fTup, fSl, fIf, fAnd, fOr, fNot, fTru, fAndV, fOrV, fNotV, fNeg, fIsi, fM1, fM2, fRg1, fRg2, fEn, fRev, fSg, fTp, fIt, eIt, eB, eV, eC, frz, shm, aCons, aNil, poN, poS, Rs.d, Rs.sl, vB, List.cons_append, List.nil_append, List.append_nil, List.replicate_zero, List.replicate_succ, List.getElem?_cons_zero, List.getElem?_cons_succ, List.set_cons_zero, List.set_cons_succ, List.length_cons, List.length_nil, opLen, lenD, opList, opAdd, opSub, opMul, opMod, opDiv, opPow, opMin, opMax, opIx, opSl, cmpB, cEq, cNe, cIsN, cNotN, truD, tgN, tgT, setAll, isKd, opFind, opFind3, opStarts, opStarts3, Nat.reduceLT, Nat.reduceAdd, Nat.reduceSub, Nat.reduceLeDiff, Int.reduceLT, Int.reduceLE, Int.reduceNeg, reduceIte, and_self, true_and, and_true, decide_true, decide_false, Int.toNat_natCast, dT, okT', evT, gs_rooms, rm, wh, fld_letters, Bool.not_true]) ?_
  refine fin_seq (by simp (disch := first | omega | assumption) only [if_pos, if_neg, decide_eq_true, decide_eq_false, atI_of, cutL_take, cutL_drop, cutL_mid, ge_iff_le, gt_iff_lt, Int.reduceToNat, Int.toNat_zero, Int.toNat_one, Bool.not_true, Bool.not_false, szl, fMaxD, fEnS, sStuck, fLenS, cGtA, sAppQ, sSetQ, sForT, forTL, opSortT, fDItems, fDKeys, fLcO, D.key, fDNew, fDGet, sDPutV, fDSet, fRg3, fChV, fSortL, frL, frS, fSortB, sRem, sqAt, eIxI, fItm, fItV, chS, sItC, sItA, sItI, sItS, fTmp, Sl.mut, Sl.th, O.d, sqD, D.atm, sTryR, fSq, aConsF, aNilF, eO, sTgF, setFd, Fd.sl, opJoinRev, fLRev, runDef, runDefI, ioAt, insA, chL, getO, setO, getL, setL, obAt, eFd, eFV, eFB, fFld, fMeth, fMethI, fMake, fCallI, aHere, fIsO, sFldS, setF, Rs.fd, Fd.d, O.d, fMethD, chF, sAppF, fPopF, fPop0, fPop1, sIns, sRetI, sRetNI, fZip, fML, opAny, opAll, opSorted, opMaxL, opMinL, opRfind, opCount, List.map_cons, List.map_nil, cInA, cNinA, inD, itD, fItA, eItA, cLtA, cLeA, fRr1, fRr2, opInt, sPar, fCallD, fRaise0, fRaise1, sTryAs, sTry, aftr, noX, allEq_const, fXf, fXi, fLc, lcL, unE, tYs, Vs.ret, xLock, inis, bof, sNil, sSeq, sAsg, sRet, sRetV, sRetN, sIf, sDrop, sTg, sFor, sBrk, sCnt, sApp, sExt, sOwn, sSetI, opSetI, sLock, unlk, sbnd, bnd, fOp, fCh, fCl, fCall, fLst, fTup, fSl, fIf, fAnd, fOr, fNot, fTru, fAndV, fOrV, fNotV, fNeg, fIsi, fM1, fM2, fRg1, fRg2, fEn, fRev, fSg, fTp, fIt, eIt, eB, eV, eC, frz, shm, aCons, aNil, poN, poS, Rs.d, Rs.sl, vB, List.cons_append, List.nil_append, List.append_nil, List.replicate_zero, List.replicate_succ, List.getElem?_cons_zero, List.getElem?_cons_succ, List.set_cons_zero, List.set_cons_succ, List.length_cons, List.length_nil, opLen, lenD, opList, opAdd, opSub, opMul, opMod, opDiv, opPow, opMin, opMax, opIx, opSl, cmpB, cEq, cNe, cIsN, cNotN, truD, tgN, tgT, setAll, isKd, opFind, opFind3, opStarts, opStarts3, Nat.reduceLT, Nat.reduceAdd, Nat.reduceSub, Nat.reduceLeDiff, Int.reduceLT, Int.reduceLE, Int.reduceNeg, reduceIte, and_self, true_and, and_true, decide_true, decide_false, Int.toNat_natCast, k1']; exact rfl) ?_
  refine fin_seq (by simp (disch := first | omega | assumption) only [if_pos, if_neg, decide_eq_true, decide_eq_false, atI_of, cutL_take, cutL_drop, cutL_mid, ge_iff_le, gt_iff_lt, Int.reduceToNat, Int.toNat_zero, Int.toNat_one, Bool.not_true, Bool.not_false, szl, fMaxD, fEnS, sStuck, fLenS, cGtA, sAppQ, sSetQ, sForT, forTL, opSortT, fDItems, fDKeys, fLcO, D.key, fDNew, fDGet, sDPutV, fDSet, fRg3, fChV, fSortL, frL, frS, fSortB, sRem, sqAt, eIxI, fItm, fItV, chS, sItC, sItA, sItI, sItS, fTmp, Sl.mut, Sl.th, O.d, sqD, D.atm, sTryR, fSq, aConsF, aNilF, eO, sTgF, setFd, Fd.sl, opJoinRev, fLRev, runDef, runDefI, ioAt, insA, chL, getO, setO, getL, setL, obAt, eFd, eFV, eFB, fFld, fMeth, fMethI, fMake, fCallI, aHere, fIsO, sFldS, setF, Rs.fd, Fd.d, O.d, fMethD, chF, sAppF, fPopF, fPop0, fPop1, sIns, sRetI, sRetNI, fZip, fML, opAny, opAll, opSorted, opMaxL, opMinL, opRfind, opCount, List.map_cons, List.map_nil, cInA, cNinA, inD, itD, fItA, eItA, cLtA, cLeA, fRr1, fRr2, opInt, sPar, fCallD, fRaise0, fRaise1, sTryAs, sTry, aftr, noX, allEq_const, fXf, fXi, fLc, lcL, unE, tYs, Vs.ret, xLock, inis, bof, sNil, sSeq, sAsg, sRet, sRetV, sRetN, sIf, sDrop, sTg, sFor, sBrk, sCnt, sApp, sExt, sOwn, sSetI, opSetI, sLock, unlk, sbnd, bnd, fOp, fCh, fCl, fCall, fLst, fTup, fSl, fIf, fAnd, fOr, fNot, fTru, fAndV, fOrV, fNotV, fNeg, fIsi, fM1, fM2, fRg1, fRg2, fEn, fRev, fSg, fTp, fIt, eIt, eB, eV, eC, frz, shm, aCons, aNil, poN, poS, Rs.d, Rs.sl, vB, List.cons_append, List.nil_append, List.append_nil, List.replicate_zero, List.replicate_succ, List.getElem?_cons_zero, List.getElem?_cons_succ, List.set_cons_zero, List.set_cons_succ, List.length_cons, List.length_nil, opLen, lenD, opList, opAdd, opSub, opMul, opMod, opDiv, opPow, opMin, opMax, opIx, opSl, cmpB, cEq, cNe, cIsN, cNotN, truD, tgN, tgT, setAll, isKd, opFind, opFind3, opStarts, opStarts3, Nat.reduceLT, Nat.reduceAdd, Nat.reduceSub, Nat.reduceLeDiff, Int.reduceLT, Int.reduceLE, Int.reduceNeg, reduceIte, and_self, true_and, and_true, decide_true, decide_false, Int.toNat_natCast, bC1, p15, hm1, u1]; exact rfl) ?_
  refine fin_seq (by simp (disch := first | omega | assumption) only [if_pos, if_neg, decide_eq_true, decide_eq_false, atI_of, cutL_take, cutL_drop, cutL_mid, ge_iff_le, gt_iff_lt, Int.reduceToNat, Int.toNat_zero, Int.toNat_one, Bool.not_true, Bool.not_false, szl, fMaxD, fEnS, sStuck, fLenS, cGtA, sAppQ, sSetQ, sForT, forTL, opSortT, fDItems, fDKeys, fLcO, D.key, fDNew, fDGet, sDPutV, fDSet, fRg3, fChV, fSortL, frL, frS, fSortB, sRem, sqAt, eIxI, fItm, fItV, chS, sItC, sItA, sItI, sItS, fTmp, Sl.mut, Sl.th, O.d, sqD, D.atm, sTryR, fSq, aConsF, aNilF, eO, sTgF, setFd, Fd.sl, opJoinRev, fLRev, runDef, runDefI, ioAt, insA, chL, getO, setO, getL, setL, obAt, eFd, eFV, eFB, fFld, fMeth, fMethI, fMake, fCallI, aHere, fIsO, sFldS, setF, Rs.fd, Fd.d, O.d, fMethD, chF, sAppF, fPopF, fPop0, fPop1, sIns, sRetI, sRetNI, fZip, fML, opAny, opAll, opSorted, opMaxL, opMinL, opRfind, opCount, List.map_cons, List.map_nil, cInA, cNinA, inD, itD, fItA, eItA, cLtA, cLeA, fRr1, fRr2, opInt, sPar, fCallD, fRaise0, fRaise1, sTryAs, sTry, aftr, noX, allEq_const, fXf, fXi, fLc, lcL, unE, tYs, Vs.ret, xLock, inis, bof, sNil, sSeq, sAsg, sRet, sRetV, sRetN, sIf, sDrop, sTg, sFor, sBrk, sCnt, sApp, sExt, sOwn, sSetI, opSetI, sLock, unlk, sbnd, bnd, fOp, fCh, fCl, fCall, fLst, fTup, fSl, fIf, fAnd, fOr, fNot, fTru, fAndV, fOrV, fNotV, fNeg, fIsi, fM1, fM2, fRg1, fRg2, fEn, fRev, fSg, fTp, fIt, eIt, eB, eV, eC, frz, shm, aCons, aNil, poN, poS, Rs.d, Rs.sl, vB, List.cons_append, List.nil_append, List.append_nil, List.replicate_zero, List.replicate_succ, List.getElem?_cons_zero, List.getElem?_cons_succ, List.set_cons_zero, List.set_cons_succ, List.length_cons, List.length_nil, opLen, lenD, opList, opAdd, opSub, opMul, opMod, opDiv, opPow, opMin, opMax, opIx, opSl, cmpB, cEq, cNe, cIsN, cNotN, truD, tgN, tgT, setAll, isKd, opFind, opFind3, opStarts, opStarts3, Nat.reduceLT, Nat.reduceAdd, Nat.reduceSub, Nat.reduceLeDiff, Int.reduceLT, Int.reduceLE, Int.reduceNeg, reduceIte, and_self, true_and, and_true, decide_true, decide_false, Int.toNat_natCast, k2']; exact rfl) ?_
  refine fin_seq (by simp (disch := first | omega | assumption) only [if_pos, if_neg, decide_eq_true, decide_eq_false, atI_of, cutL_take, cutL_drop, cutL_mid, ge_iff_le, gt_iff_lt, Int.reduceToNat, Int.toNat_zero, Int.toNat_one, Bool.not_true, Bool.not_false, szl, fMaxD, fEnS, sStuck, fLenS, cGtA, sAppQ, sSetQ, sForT, forTL, opSortT, fDItems, fDKeys, fLcO, D.key, fDNew, fDGet, sDPutV, fDSet, fRg3, fChV, fSortL, frL, frS, fSortB, sRem, sqAt, eIxI, fItm, fItV, chS, sItC, sItA, sItI, sItS, fTmp, Sl.mut, Sl.th, O.d, sqD, D.atm, sTryR, fSq, aConsF, aNilF, eO, sTgF, setFd, Fd.sl, opJoinRev, fLRev, runDef, runDefI, ioAt, insA, chL, getO, setO, getL, setL, obAt, eFd, eFV, eFB, fFld, fMeth, fMethI, fMake, fCallI, aHere, fIsO, sFldS, setF, Rs.fd, Fd.d, O.d, fMethD, chF, sAppF, fPopF, fPop0, fPop1, sIns, sRetI, sRetNI, fZip, fML, opAny, opAll, opSorted, opMaxL, opMinL, opRfind, opCount, List.map_cons, List.map_nil, cInA, cNinA, inD, itD, fItA, eItA, cLtA, cLeA, fRr1, fRr2, opInt, sPar, fCallD, fRaise0, fRaise1, sTryAs, sTry, aftr, noX, allEq_const, fXf, fXi, fLc, lcL, unE, tYs, Vs.ret, xLock, inis, bof, sNil, sSeq, sAsg, sRet, sRetV, sRetN, sIf, sDrop, sTg, sFor, sBrk, sCnt, sApp, sExt, sOwn, sSetI, opSetI, sLock, unlk, sbnd, bnd, fOp, fCh, fCl, fCall, fLst, fTup, fSl, fIf, fAnd, fOr, fNot, fTru, fAndV, fOrV, fNotV, fNeg, fIsi, fM1, fM2, fRg1, fRg2, fEn, fRev, fSg, fTp, fIt, eIt, eB, eV, eC, frz, shm, aCons, aNil, poN, poS, Rs.d, Rs.sl, vB, List.cons_append, List.nil_append, List.append_nil, List.replicate_zero, List.replicate_succ, List.getElem?_cons_zero, List.getElem?_cons_succ, List.set_cons_zero, List.set_cons_succ, List.length_cons, List.length_nil, opLen, lenD, opList, opAdd, opSub, opMul, opMod, opDiv, opPow, opMin, opMax, opIx, opSl, cmpB, cEq, cNe, cIsN, cNotN, truD, tgN, tgT, setAll, isKd, opFind, opFind3, opStarts, opStarts3, Nat.reduceLT, Nat.reduceAdd, Nat.reduceSub, Nat.reduceLeDiff, Int.reduceLT, Int.reduceLE, Int.reduceNeg, reduceIte, and_self, true_and, and_true, decide_true, decide_false, Int.toNat_natCast, bC2, p15, hm2', v1]; exact rfl) ?_
  refine fin_seq (e1 := [.sh (.scr ns), .sh (.int c0), .sh (.str L), .sh (.int N), .ow TD, .tr (.sq false F), .sh (.ob 0 [.str L, .lst TD]), .sh (.int C2), .sh (.str u), .sh (.str v), .un, .un]) (by unfold i2_law; simp (disch := first | omega | assumption) only [if_pos, if_neg, decide_eq_true, decide_eq_false, atI_of, cutL_take, cutL_drop, cutL_mid, ge_iff_le, gt_iff_lt, Int.reduceToNat, Int.toNat_zero, Int.toNat_one, Bool.not_true, Bool.not_false, szl, fMaxD, fEnS, sStuck, fLenS, cGtA, sAppQ, sSetQ, sForT, forTL, opSortT, fDItems, fDKeys, fLcO, D.key, fDNew, fDGet, sDPutV, fDSet, fRg3, fChV, fSortL, frL, frS, fSortB, sRem, sqAt, eIxI, fItm, fItV, chS, sItC, sItA, sItI, sItS, fTmp, Sl.mut, Sl.th, O.d, sqD, D.atm, sTryR, fSq, aConsF, aNilF, eO, sTgF, setFd, Fd.sl, opJoinRev, fLRev, runDef, runDefI, ioAt, insA, chL, getO, setO, getL, setL, obAt, eFd, eFV, eFB, fFld, fMeth, fMethI, fMake, fCallI, aHere, fIsO, sFldS, setF, Rs.fd, Fd.d, O.d, fMethD, chF, sAppF, fPopF, fPop0, fPop1, sIns, sRetI, sRetNI, fZip, fML, opAny, opAll, opSorted, opMaxL, opMinL, opRfind, opCount, List.map_cons, List.map_nil, cInA, cNinA, inD, itD, fItA, eItA, cLtA, cLeA, fRr1, fRr2, opInt, sPar, fCallD, fRaise0, fRaise1, sTryAs, sTry, aftr, noX, allEq_const, fXf, fXi, fLc, lcL, unE, tYs, Vs.ret, xLock, inis, bof, sNil, sSeq, sAsg, sRet, sRetV, sRetN, sIf, sDrop, sTg, sFor, sBrk, sCnt, sApp, sExt, sOwn, sSetI, opSetI, sLock, unlk, sbnd, bnd, fOp, fCh, fCl, fCall, fLst, fTup, fSl, fIf, fAnd, fOr, fNot, fTru, fAndV, fOrV, fNotV, fNeg, fIsi, fM1, fM2, fRg1, fRg2, fEn, fRev, fSg, fTp, fIt, eIt, eB, eV, eC, frz, shm, aCons, aNil, poN, poS, Rs.d, Rs.sl, vB, List.cons_append, List.nil_append, List.append_nil, List.replicate_zero, List.replicate_succ, List.getElem?_cons_zero, List.getElem?_cons_succ, List.set_cons_zero, List.set_cons_succ, List.length_cons, List.length_nil, opLen, lenD, opList, opAdd, opSub, opMul, opMod, opDiv, opPow, opMin, opMax, opIx, opSl, cmpB, cEq, cNe, cIsN, cNotN, truD, tgN, tgT, setAll, isKd, opFind, opFind3, opStarts, opStarts3, Nat.reduceLT, Nat.reduceAdd, Nat.reduceSub, Nat.reduceLeDiff, Int.reduceLT, Int.reduceLE, Int.reduceNeg, reduceIte, and_self, true_and, and_true, decide_true, decide_false, Int.toNat_natCast, ld1, Bool.not_true]) ?_
  refine fin_seq (e1 := [.sh (.scr ns), .sh (.int c0), .sh (.str L), .sh (.int N), .ow TD, .tr (.sq false (.ow (.int Z :: nD r0') :: tabF T1)), .sh (.ob 0 [.str L, .lst TD]), .sh (.int C2), .sh (.str u), .sh (.str v), .un, .un]) (by rw [tF]; simp (disch := first | omega | assumption) only [if_pos, if_neg, decide_eq_true, decide_eq_false, atI_of, cutL_take, cutL_drop, cutL_mid, ge_iff_le, gt_iff_lt, Int.reduceToNat, Int.toNat_zero, Int.toNat_one, Bool.not_true, Bool.not_false, szl, fMaxD, fEnS, sStuck, fLenS, cGtA, sAppQ, sSetQ, sForT, forTL, opSortT, fDItems, fDKeys, fLcO, D.key, fDNew, fDGet, sDPutV, fDSet, fRg3, fChV, fSortL, frL, frS, fSortB, sRem, sqAt, eIxI, fItm, fItV, chS, sItC, sItA, sItI, sItS, fTmp, Sl.mut, Sl.th, O.d, sqD, D.atm, sTryR, fSq, aConsF, aNilF, eO, sTgF, setFd, Fd.sl, opJoinRev, fLRev, runDef, runDefI, ioAt, insA, chL, getO, setO, getL, setL, obAt, eFd, eFV, eFB, fFld, fMeth, fMethI, fMake, fCallI, aHere, fIsO, sFldS, setF, Rs.fd, Fd.d, O.d, fMethD, chF, sAppF, fPopF, fPop0, fPop1, sIns, sRetI, sRetNI, fZip, fML, opAny, opAll, opSorted, opMaxL, opMinL, opRfind, opCount, List.map_cons, List.map_nil, cInA, cNinA, inD, itD, fItA, eItA, cLtA, cLeA, fRr1, fRr2, opInt, sPar, fCallD, fRaise0, fRaise1, sTryAs, sTry, aftr, noX, allEq_const, fXf, fXi, fLc, lcL, unE, tYs, Vs.ret, xLock, inis, bof, sNil, sSeq, sAsg, sRet, sRetV, sRetN, sIf, sDrop, sTg, sFor, sBrk, sCnt, sApp, sExt, sOwn, sSetI, opSetI, sLock, unlk, sbnd, bnd, fOp, fCh, fCl, fCall, fLst, fTup, fSl, fIf, fAnd, fOr, fNot, fTru, fAndV, fOrV, fNotV, fNeg, fIsi, fM1, fM2, fRg1, fRg2, fEn, fRev, fSg, fTp, fIt, eIt, eB, eV, eC, frz, shm, aCons, aNil, poN, poS, Rs.d, Rs.sl, vB, List.cons_append, List.nil_append, List.append_nil, List.replicate_zero, List.replicate_succ, List.getElem?_cons_zero, List.getElem?_cons_succ, List.set_cons_zero, List.set_cons_succ, List.length_cons, List.length_nil, opLen, lenD, opList, opAdd, opSub, opMul, opMod, opDiv, opPow, opMin, opMax, opIx, opSl, cmpB, cEq, cNe, cIsN, cNotN, truD, tgN, tgT, setAll, isKd, opFind, opFind3, opStarts, opStarts3, Nat.reduceLT, Nat.reduceAdd, Nat.reduceSub, Nat.reduceLeDiff, Int.reduceLT, Int.reduceLE, Int.reduceNeg, reduceIte, and_self, true_and, and_true, decide_true, decide_false, Int.toNat_natCast, ← hZ, ix0]) ?_
  refine fin_seq (e1 := [.sh (.scr ns), .sh (.int c0), .sh (.str L), .sh (.int N), .ow TD, .tr (.sq false (.ow (.int Z :: nD r0') :: tabF T1 ++ [.ow [.int 0]])), .sh (.ob 0 [.str L, .lst TD]), .sh (.int C2), .sh (.str u), .sh (.str v), .un, .un]) (by simp (disch := first | omega | assumption) only [if_pos, if_neg, decide_eq_true, decide_eq_false, atI_of, cutL_take, cutL_drop, cutL_mid, ge_iff_le, gt_iff_lt, Int.reduceToNat, Int.toNat_zero, Int.toNat_one, Bool.not_true, Bool.not_false, szl, fMaxD, fEnS, sStuck, fLenS, cGtA, sAppQ, sSetQ, sForT, forTL, opSortT, fDItems, fDKeys, fLcO, D.key, fDNew, fDGet, sDPutV, fDSet, fRg3, fChV, fSortL, frL, frS, fSortB, sRem, sqAt, eIxI, fItm, fItV, chS, sItC, sItA, sItI, sItS, fTmp, Sl.mut, Sl.th, O.d, sqD, D.atm, sTryR, fSq, aConsF, aNilF, eO, sTgF, setFd, Fd.sl, opJoinRev, fLRev, runDef, runDefI, ioAt, insA, chL, getO, setO, getL, setL, obAt, eFd, eFV, eFB, fFld, fMeth, fMethI, fMake, fCallI, aHere, fIsO, sFldS, setF, Rs.fd, Fd.d, O.d, fMethD, chF, sAppF, fPopF, fPop0, fPop1, sIns, sRetI, sRetNI, fZip, fML, opAny, opAll, opSorted, opMaxL, opMinL, opRfind, opCount, List.map_cons, List.map_nil, cInA, cNinA, inD, itD, fItA, eItA, cLtA, cLeA, fRr1, fRr2, opInt, sPar, fCallD, fRaise0, fRaise1, sTryAs, sTry, aftr, noX, allEq_const, fXf, fXi, fLc, lcL, unE, tYs, Vs.ret, xLock, inis, bof, sNil, sSeq, sAsg, sRet, sRetV, sRetN, sIf, sDrop, sTg, sFor, sBrk, sCnt, sApp, sExt, sOwn, sSetI, opSetI, sLock, unlk, sbnd, bnd, fOp, fCh, fCl, fCall, fLst, fTup, fSl, fIf, fAnd, fOr, fNot, fTru, fAndV, fOrV, fNotV, fNeg, fIsi, fM1, fM2, fRg1, fRg2, fEn, fRev, fSg, fTp, fIt, eIt, eB, eV, eC, frz, shm, aCons, aNil, poN, poS, Rs.d, Rs.sl, vB, List.cons_append, List.nil_append, List.append_nil, List.replicate_zero, List.replicate_succ, List.getElem?_cons_zero, List.getElem?_cons_succ, List.set_cons_zero, List.set_cons_succ, List.length_cons, List.length_nil, opLen, lenD, opList, opAdd, opSub, opMul, opMod, opDiv, opPow, opMin, opMax, opIx, opSl, cmpB, cEq, cNe, cIsN, cNotN, truD, tgN, tgT, setAll, isKd, opFind, opFind3, opStarts, opStarts3, Nat.reduceLT, Nat.reduceAdd, Nat.reduceSub, Nat.reduceLeDiff, Int.reduceLT, Int.reduceLE, Int.reduceNeg, reduceIte, and_self, true_and, and_true, decide_true, decide_false, Int.toNat_natCast]) ?_
  obtain ⟨X5, hX5⟩ : ∃ X, X = Sl.tr (.sq false (.ow (.int Z :: nD r0') :: tabF T1 ++ [.ow [.int 0]])) := ⟨_, rfl⟩
  rw [← hX5]
  refine fin_seq (by simp (disch := first | omega | assumption) only [if_pos, if_neg, decide_eq_true, decide_eq_false, atI_of, cutL_take, cutL_drop, cutL_mid, ge_iff_le, gt_iff_lt, Int.reduceToNat, Int.toNat_zero, Int.toNat_one, Bool.not_true, Bool.not_false, szl, fMaxD, fEnS, sStuck, fLenS, cGtA, sAppQ, sSetQ, sForT, forTL, opSortT, fDItems, fDKeys, fLcO, D.key, fDNew, fDGet, sDPutV, fDSet, fRg3, fChV, fSortL, frL, frS, fSortB, sRem, sqAt, eIxI, fItm, fItV, chS, sItC, sItA, sItI, sItS, fTmp, Sl.mut, Sl.th, O.d, sqD, D.atm, sTryR, fSq, aConsF, aNilF, eO, sTgF, setFd, Fd.sl, opJoinRev, fLRev, runDef, runDefI, ioAt, insA, chL, getO, setO, getL, setL, obAt, eFd, eFV, eFB, fFld, fMeth, fMethI, fMake, fCallI, aHere, fIsO, sFldS, setF, Rs.fd, Fd.d, O.d, fMethD, chF, sAppF, fPopF, fPop0, fPop1, sIns, sRetI, sRetNI, fZip, fML, opAny, opAll, opSorted, opMaxL, opMinL, opRfind, opCount, List.map_cons, List.map_nil, cInA, cNinA, inD, itD, fItA, eItA, cLtA, cLeA, fRr1, fRr2, opInt, sPar, fCallD, fRaise0, fRaise1, sTryAs, sTry, aftr, noX, allEq_const, fXf, fXi, fLc, lcL, unE, tYs, Vs.ret, xLock, inis, bof, sNil, sSeq, sAsg, sRet, sRetV, sRetN, sIf, sDrop, sTg, sFor, sBrk, sCnt, sApp, sExt, sOwn, sSetI, opSetI, sLock, unlk, sbnd, bnd, fOp, fCh, fCl, fCall, fLst, fTup, fSl, fIf, fAnd, fOr, fNot, fTru, fAndV, fOrV, fNotV, fNeg, fIsi, fM1, fM2, fRg1, fRg2, fEn, fRev, fSg, fTp, fIt, eIt, eB, eV, eC, frz, shm, aCons, aNil, poN, poS, Rs.d, Rs.sl, vB, List.cons_append, List.nil_append, List.append_nil, List.replicate_zero, List.replicate_succ, List.getElem?_cons_zero, List.getElem?_cons_succ, List.set_cons_zero, List.set_cons_succ, List.length_cons, List.length_nil, opLen, lenD, opList, opAdd, opSub, opMul, opMod, opDiv, opPow, opMin, opMax, opIx, opSl, cmpB, cEq, cNe, cIsN, cNotN, truD, tgN, tgT, setAll, isKd, opFind, opFind3, opStarts, opStarts3, Nat.reduceLT, Nat.reduceAdd, Nat.reduceSub, Nat.reduceLeDiff, Int.reduceLT, Int.reduceLE, Int.reduceNeg, reduceIte, and_self, true_and, and_true, decide_true, decide_false, Int.toNat_natCast, gs_table_told, told]; exact rfl) ?_
  refine fin_seq (e1 := [.sh (.scr ns), .sh (.int c0), .sh (.str L), .sh (.int N), .ow TD, X5, .sh (.ob 0 [.str L, .lst TD]), .sh (.int C2), .sh (.str u), .sh (.str v), .tr (.sq false F), .un]) (by unfold i3_law; simp (disch := first | omega | assumption) only [if_pos, if_neg, decide_eq_true, decide_eq_false, atI_of, cutL_take, cutL_drop, cutL_mid, ge_iff_le, gt_iff_lt, Int.reduceToNat, Int.toNat_zero, Int.toNat_one, Bool.not_true, Bool.not_false, szl, fMaxD, fEnS, sStuck, fLenS, cGtA, sAppQ, sSetQ, sForT, forTL, opSortT, fDItems, fDKeys, fLcO, D.key, fDNew, fDGet, sDPutV, fDSet, fRg3, fChV, fSortL, frL, frS, fSortB, sRem, sqAt, eIxI, fItm, fItV, chS, sItC, sItA, sItI, sItS, fTmp, Sl.mut, Sl.th, O.d, sqD, D.atm, sTryR, fSq, aConsF, aNilF, eO, sTgF, setFd, Fd.sl, opJoinRev, fLRev, runDef, runDefI, ioAt, insA, chL, getO, setO, getL, setL, obAt, eFd, eFV, eFB, fFld, fMeth, fMethI, fMake, fCallI, aHere, fIsO, sFldS, setF, Rs.fd, Fd.d, O.d, fMethD, chF, sAppF, fPopF, fPop0, fPop1, sIns, sRetI, sRetNI, fZip, fML, opAny, opAll, opSorted, opMaxL, opMinL, opRfind, opCount, List.map_cons, List.map_nil, cInA, cNinA, inD, itD, fItA, eItA, cLtA, cLeA, fRr1, fRr2, opInt, sPar, fCallD, fRaise0, fRaise1, sTryAs, sTry, aftr, noX, allEq_const, fXf, fXi, fLc, lcL, unE, tYs, Vs.ret, xLock, inis, bof, sNil, sSeq, sAsg, sRet, sRetV, sRetN, sIf, sDrop, sTg, sFor, sBrk, sCnt, sApp, sExt, sOwn, sSetI, opSetI, sLock, unlk, sbnd, bnd, fOp, fCh, fCl, fCall, fLst, fTup, fSl, fIf, fAnd, fOr, fNot, fTru, fAndV, fOrV, fNotV, fNeg, fIsi, fM1, fM2, fRg1, fRg2, fEn, fRev, fSg, fTp, fIt, eIt, eB, eV, eC, frz, shm, aCons, aNil, poN, poS, Rs.d, Rs.sl, vB, List.cons_append, List.nil_append, List.append_nil, List.replicate_zero, List.replicate_succ, List.getElem?_cons_zero, List.getElem?_cons_succ, List.set_cons_zero, List.set_cons_succ, List.length_cons, List.length_nil, opLen, lenD, opList, opAdd, opSub, opMul, opMod, opDiv, opPow, opMin, opMax, opIx, opSl, cmpB, cEq, cNe, cIsN, cNotN, truD, tgN, tgT, setAll, isKd, opFind, opFind3, opStarts, opStarts3, Nat.reduceLT, Nat.reduceAdd, Nat.reduceSub, Nat.reduceLeDiff, Int.reduceLT, Int.reduceLE, Int.reduceNeg, reduceIte, and_self, true_and, and_true, decide_true, decide_false, Int.toNat_natCast, dT, lit, okT', evT, Bool.not_true]) ?_
  refine fin_seq (e1 := [.sh (.scr ns), .sh (.int c0), .sh (.str L), .sh (.int N), .ow TD, X5, .sh (.ob 0 [.str L, .lst TD]), .sh (.int C2), .sh (.str u), .sh (.str v), .tr (.sq false (.ow (.int Z :: nD r0') :: tabF T1)), .un]) (by rw [tF]; simp (disch := first | omega | assumption) only [if_pos, if_neg, decide_eq_true, decide_eq_false, atI_of, cutL_take, cutL_drop, cutL_mid, ge_iff_le, gt_iff_lt, Int.reduceToNat, Int.toNat_zero, Int.toNat_one, Bool.not_true, Bool.not_false, szl, fMaxD, fEnS, sStuck, fLenS, cGtA, sAppQ, sSetQ, sForT, forTL, opSortT, fDItems, fDKeys, fLcO, D.key, fDNew, fDGet, sDPutV, fDSet, fRg3, fChV, fSortL, frL, frS, fSortB, sRem, sqAt, eIxI, fItm, fItV, chS, sItC, sItA, sItI, sItS, fTmp, Sl.mut, Sl.th, O.d, sqD, D.atm, sTryR, fSq, aConsF, aNilF, eO, sTgF, setFd, Fd.sl, opJoinRev, fLRev, runDef, runDefI, ioAt, insA, chL, getO, setO, getL, setL, obAt, eFd, eFV, eFB, fFld, fMeth, fMethI, fMake, fCallI, aHere, fIsO, sFldS, setF, Rs.fd, Fd.d, O.d, fMethD, chF, sAppF, fPopF, fPop0, fPop1, sIns, sRetI, sRetNI, fZip, fML, opAny, opAll, opSorted, opMaxL, opMinL, opRfind, opCount, List.map_cons, List.map_nil, cInA, cNinA, inD, itD, fItA, eItA, cLtA, cLeA, fRr1, fRr2, opInt, sPar, fCallD, fRaise0, fRaise1, sTryAs, sTry, aftr, noX, allEq_const, fXf, fXi, fLc, lcL, unE, tYs, Vs.ret, xLock, inis, bof, sNil, sSeq, sAsg, sRet, sRetV, sRetN, sIf, sDrop, sTg, sFor, sBrk, sCnt, sApp, sExt, sOwn, sSetI, opSetI, sLock, unlk, sbnd, bnd, fOp, fCh, fCl, fCall, fLst, fTup, fSl, fIf, fAnd, fOr, fNot, fTru, fAndV, fOrV, fNotV, fNeg, fIsi, fM1, fM2, fRg1, fRg2, fEn, fRev, fSg, fTp, fIt, eIt, eB, eV, eC, frz, shm, aCons, aNil, poN, poS, Rs.d, Rs.sl, vB, List.cons_append, List.nil_append, List.append_nil, List.replicate_zero, List.replicate_succ, List.getElem?_cons_zero, List.getElem?_cons_succ, List.set_cons_zero, List.set_cons_succ, List.length_cons, List.length_nil, opLen, lenD, opList, opAdd, opSub, opMul, opMod, opDiv, opPow, opMin, opMax, opIx, opSl, cmpB, cEq, cNe, cIsN, cNotN, truD, tgN, tgT, setAll, isKd, opFind, opFind3, opStarts, opStarts3, Nat.reduceLT, Nat.reduceAdd, Nat.reduceSub, Nat.reduceLeDiff, Int.reduceLT, Int.reduceLE, Int.reduceNeg, reduceIte, and_self, true_and, and_true, decide_true, decide_false, Int.toNat_natCast, ← hZ, ix0]) ?_
  refine fin_seq (e1 := [.sh (.scr ns), .sh (.int c0), .sh (.str L), .sh (.int N), .ow TD, X5, .sh (.ob 0 [.str L, .lst TD]), .sh (.int C2), .sh (.str u), .sh (.str v), .tr (.sq false (.ow (.int Z :: nD r0') :: tabF T1 ++ [.ow [.int 0]])), .un]) (by simp (disch := first | omega | assumption) only [if_pos, if_neg, decide_eq_true, decide_eq_false, atI_of, cutL_take, cutL_drop, cutL_mid, ge_iff_le, gt_iff_lt, Int.reduceToNat, Int.toNat_zero, Int.toNat_one, Bool.not_true, Bool.not_false, szl, fMaxD, fEnS, sStuck, fLenS, cGtA, sAppQ, sSetQ, sForT, forTL, opSortT, fDItems, fDKeys, fLcO, D.key, fDNew, fDGet, sDPutV, fDSet, fRg3, fChV, fSortL, frL, frS, fSortB, sRem, sqAt, eIxI, fItm, fItV, chS, sItC, sItA, sItI, sItS, fTmp, Sl.mut, Sl.th, O.d, sqD, D.atm, sTryR, fSq, aConsF, aNilF, eO, sTgF, setFd, Fd.sl, opJoinRev, fLRev, runDef, runDefI, ioAt, insA, chL, getO, setO, getL, setL, obAt, eFd, eFV, eFB, fFld, fMeth, fMethI, fMake, fCallI, aHere, fIsO, sFldS, setF, Rs.fd, Fd.d, O.d, fMethD, chF, sAppF, fPopF, fPop0, fPop1, sIns, sRetI, sRetNI, fZip, fML, opAny, opAll, opSorted, opMaxL, opMinL, opRfind, opCount, List.map_cons, List.map_nil, cInA, cNinA, inD, itD, fItA, eItA, cLtA, cLeA, fRr1, fRr2, opInt, sPar, fCallD, fRaise0, fRaise1, sTryAs, sTry, aftr, noX, allEq_const, fXf, fXi, fLc, lcL, unE, tYs, Vs.ret, xLock, inis, bof, sNil, sSeq, sAsg, sRet, sRetV, sRetN, sIf, sDrop, sTg, sFor, sBrk, sCnt, sApp, sExt, sOwn, sSetI, opSetI, sLock, unlk, sbnd, bnd, fOp, fCh, fCl, fCall, fLst, fTup, fSl, fIf, fAnd, fOr, fNot, fTru, fAndV, fOrV, fNotV, fNeg, fIsi, fM1, fM2, fRg1, fRg2, fEn, fRev, fSg, fTp, fIt, eIt, eB, eV, eC, frz, shm, aCons, aNil, poN, poS, Rs.d, Rs.sl, vB, List.cons_append, List.nil_append, List.append_nil, List.replicate_zero, List.replicate_succ, List.getElem?_cons_zero, List.getElem?_cons_succ, List.set_cons_zero, List.set_cons_succ, List.length_cons, List.length_nil, opLen, lenD, opList, opAdd, opSub, opMul, opMod, opDiv, opPow, opMin, opMax, opIx, opSl, cmpB, cEq, cNe, cIsN, cNotN, truD, tgN, tgT, setAll, isKd, opFind, opFind3, opStarts, opStarts3, Nat.reduceLT, Nat.reduceAdd, Nat.reduceSub, Nat.reduceLeDiff, Int.reduceLT, Int.reduceLE, Int.reduceNeg, reduceIte, and_self, true_and, and_true, decide_true, decide_false, Int.toNat_natCast]) ?_
  rw [← hX5]
  refine fin_seq (e1 := [.sh (.scr ns), .sh (.int c0), .sh (.str L), .sh (.int N), .ow TD, X5, .sh (.ob 0 [.str L, .lst TD]), .sh (.int C2), .sh (.str u), .sh (.str v), X5, .un]) (by unfold i4_law; simp (disch := first | omega | assumption) only [if_pos, if_neg, decide_eq_true, decide_eq_false, atI_of, cutL_take, cutL_drop, cutL_mid, ge_iff_le, gt_iff_lt, Int.reduceToNat, Int.toNat_zero, Int.toNat_one, Bool.not_true, Bool.not_false, szl, fMaxD, fEnS, sStuck, fLenS, cGtA, sAppQ, sSetQ, sForT, forTL, opSortT, fDItems, fDKeys, fLcO, D.key, fDNew, fDGet, sDPutV, fDSet, fRg3, fChV, fSortL, frL, frS, fSortB, sRem, sqAt, eIxI, fItm, fItV, chS, sItC, sItA, sItI, sItS, fTmp, Sl.mut, Sl.th, O.d, sqD, D.atm, sTryR, fSq, aConsF, aNilF, eO, sTgF, setFd, Fd.sl, opJoinRev, fLRev, runDef, runDefI, ioAt, insA, chL, getO, setO, getL, setL, obAt, eFd, eFV, eFB, fFld, fMeth, fMethI, fMake, fCallI, aHere, fIsO, sFldS, setF, Rs.fd, Fd.d, O.d, fMethD, chF, sAppF, fPopF, fPop0, fPop1, sIns, sRetI, sRetNI, fZip, fML, opAny, opAll, opSorted, opMaxL, opMinL, opRfind, opCount, List.map_cons, List.map_nil, cInA, cNinA, inD, itD, fItA, eItA, cLtA, cLeA, fRr1, fRr2, opInt, sPar, fCallD, fRaise0, fRaise1, sTryAs, sTry, aftr, noX, allEq_const, fXf, fXi, fLc, lcL, unE, tYs, Vs.ret, xLock, inis, bof, sNil, sSeq, sAsg, sRet, sRetV, sRetN, sIf, sDrop, sTg, sFor, sBrk, sCnt, sApp, sExt, sOwn, sSetI, opSetI, sLock, unlk, sbnd, bnd, fOp, fCh, fCl, fCall, fLst, fTup, fSl, fIf, fAnd, fOr, fNot, fTru, fAndV, fOrV, fNotV, fNeg, fIsi, fM1, fM2, fRg1, fRg2, fEn, fRev, fSg, fTp, fIt, eIt, eB, eV, eC, frz, shm, aCons, aNil, poN, poS, Rs.d, Rs.sl, vB, List.cons_append, List.nil_append, List.append_nil, List.replicate_zero, List.replicate_succ, List.getElem?_cons_zero, List.getElem?_cons_succ, List.set_cons_zero, List.set_cons_succ, List.length_cons, List.length_nil, opLen, lenD, opList, opAdd, opSub, opMul, opMod, opDiv, opPow, opMin, opMax, opIx, opSl, cmpB, cEq, cNe, cIsN, cNotN, truD, tgN, tgT, setAll, isKd, opFind, opFind3, opStarts, opStarts3, Nat.reduceLT, Nat.reduceAdd, Nat.reduceSub, Nat.reduceLeDiff, Int.reduceLT, Int.reduceLE, Int.reduceNeg, reduceIte, and_self, true_and, and_true, decide_true, decide_false, Int.toNat_natCast, gs_table_told, told, dT, okT', evT, ld2, Bool.not_true]) ?_
  simp (disch := first | omega | assumption) only [if_pos, if_neg, decide_eq_true, decide_eq_false, atI_of, cutL_take, cutL_drop, cutL_mid, ge_iff_le, gt_iff_lt, Int.reduceToNat, Int.toNat_zero, Int.toNat_one, Bool.not_true, Bool.not_false, szl, fMaxD, fEnS, sStuck, fLenS, cGtA, sAppQ, sSetQ, sForT, forTL, opSortT, fDItems, fDKeys, fLcO, D.key, fDNew, fDGet, sDPutV, fDSet, fRg3, fChV, fSortL, frL, frS, fSortB, sRem, sqAt, eIxI, fItm, fItV, chS, sItC, sItA, sItI, sItS, fTmp, Sl.mut, Sl.th, O.d, sqD, D.atm, sTryR, fSq, aConsF, aNilF, eO, sTgF, setFd, Fd.sl, opJoinRev, fLRev, runDef, runDefI, ioAt, insA, chL, getO, setO, getL, setL, obAt, eFd, eFV, eFB, fFld, fMeth, fMethI, fMake, fCallI, aHere, fIsO, sFldS, setF, Rs.fd, Fd.d, O.d, fMethD, chF, sAppF, fPopF, fPop0, fPop1, sIns, sRetI, sRetNI, fZip, fML, opAny, opAll, opSorted, opMaxL, opMinL, opRfind, opCount, List.map_cons, List.map_nil, cInA, cNinA, inD, itD, fItA, eItA, cLtA, cLeA, fRr1, fRr2, opInt, sPar, fCallD, fRaise0, fRaise1, sTryAs, sTry, aftr, noX, allEq_const, fXf, fXi, fLc, lcL, unE, tYs, Vs.ret, xLock, inis, bof, sNil, sSeq, sAsg, sRet, sRetV, sRetN, sIf, sDrop, sTg, sFor, sBrk, sCnt, sApp, sExt, sOwn, sSetI, opSetI, sLock, unlk, sbnd, bnd, fOp, fCh, fCl, fCall, fLst, fTup, fSl, fIf, fAnd, fOr, fNot, fTru, fAndV, fOrV, fNotV, fNeg, fIsi, fM1, fM2, fRg1, fRg2, fEn, fRev, fSg, fTp, fIt, eIt, eB, eV, eC, frz, shm, aCons, aNil, poN, poS, Rs.d, Rs.sl, vB, List.cons_append, List.nil_append, List.append_nil, List.replicate_zero, List.replicate_succ, List.getElem?_cons_zero, List.getElem?_cons_succ, List.set_cons_zero, List.set_cons_succ, List.length_cons, List.length_nil, opLen, lenD, opList, opAdd, opSub, opMul, opMod, opDiv, opPow, opMin, opMax, opIx, opSl, cmpB, cEq, cNe, cIsN, cNotN, truD, tgN, tgT, setAll, isKd, opFind, opFind3, opStarts, opStarts3, Nat.reduceLT, Nat.reduceAdd, Nat.reduceSub, Nat.reduceLeDiff, Int.reduceLT, Int.reduceLE, Int.reduceNeg, reduceIte, and_self, true_and, and_true, decide_true, decide_false, Int.toNat_natCast, gs_table_told, told, dT, wiT, gs_led, ledn]
  rfl

end Lw


set_option Elab.async false
set_option linter.all false
set_option maxRecDepth 100000
set_option maxHeartbeats 4000000
namespace Lw
open PySem L2 Vs
def topS (i : Nat) : Stmt := PySem.Challenge.pw_letterlaw_k61_led.main.body.getD i (.Pass ⟨0, 0, 0, 0⟩)
structure Txt (κ : Kx) (mg : Str → Option Value) : Prop where
  xf : κ.xf = xf
  g_LetterError : mg "LetterError" = some (.ref (κ.xc 0))
  g_NoLetters : mg "NoLetters" = some (.ref (κ.xc 1))
  g_NoWorld : mg "NoWorld" = some (.ref (κ.xc 2))
  e_NoLetters : PySem.W.excIn κ.K (κ.xc 1) veB "ValueError.__new__" = true
  k_NoLetters : PySem.W.keepIn κ.K (.ref (κ.xc 1)) = true
  b_NoLetters : PySem.W.subIn κ.K (.ref (κ.xc 1)) (.type "BaseException") = some true
  t_NoLetters : PySem.W.typeIn κ.K (.ref (κ.xc 1)) = some (.type "type")
  e_NoWorld : PySem.W.excIn κ.K (κ.xc 2) veB "ValueError.__new__" = true
  k_NoWorld : PySem.W.keepIn κ.K (.ref (κ.xc 2)) = true
  b_NoWorld : PySem.W.subIn κ.K (.ref (κ.xc 2)) (.type "BaseException") = some true
  t_NoWorld : PySem.W.typeIn κ.K (.ref (κ.xc 2)) = some (.type "type")
  fld_letters : FldOk κ "letters" fld_letters
  fld_table : FldOk κ "table" fld_table
  m_0_led : ∃ (f : Addr) (fd : FuncData), Fun κ.K "led" "World.led" (inClass (topS 11) 3) f fd ∧ L2.Cls κ.K (κ.cl 0) ∧ L2.Meth κ.K (κ.cl 0) "led" f ∧ ("led" : Str) ∉ κ.fl 0
  m_0_rooms : ∃ (f : Addr) (fd : FuncData), Fun κ.K "rooms" "World.rooms" (inClass (topS 11) 1) f fd ∧ L2.Cls κ.K (κ.cl 0) ∧ L2.Meth κ.K (κ.cl 0) "rooms" f ∧ ("rooms" : Str) ∉ κ.fl 0
  m_0_table_told : ∃ (f : Addr) (fd : FuncData), Fun κ.K "table_told" "World.table_told" (inClass (topS 11) 2) f fd ∧ L2.Cls κ.K (κ.cl 0) ∧ L2.Meth κ.K (κ.cl 0) "table_told" f ∧ ("table_told" : Str) ∉ κ.fl 0
  mk_World : ∃ (f : Addr) (fd : FuncData), mg "World" = some (.ref (κ.cl 0)) ∧ L2.Mk κ.K (κ.cl 0) f ∧ Fun κ.K "__init__" "World.__init__" (inClass (topS 11) 0) f fd
  d_law_cell_at : ∃ (f : Addr) (fd : FuncData), Fun κ.K "_law_cell_at" "_law_cell_at" (topS 13) f fd ∧ mg "_law_cell_at" = some (.ref f)
  d_law_letters : ∃ (f : Addr) (fd : FuncData), Fun κ.K "_law_letters" "_law_letters" (topS 14) f fd ∧ mg "_law_letters" = some (.ref f)
  d_law_rows : ∃ (f : Addr) (fd : FuncData), Fun κ.K "_law_rows" "_law_rows" (topS 17) f fd ∧ mg "_law_rows" = some (.ref f)
  d_letters_of : ∃ (f : Addr) (fd : FuncData), Fun κ.K "letters_of" "letters_of" (topS 7) f fd ∧ mg "letters_of" = some (.ref f)
  d_is_table : ∃ (f : Addr) (fd : FuncData), Fun κ.K "is_table" "is_table" (topS 10) f fd ∧ mg "is_table" = some (.ref f)
  d_law_whole : ∃ (f : Addr) (fd : FuncData), Fun κ.K "_law_whole" "_law_whole" (topS 16) f fd ∧ mg "_law_whole" = some (.ref f)
  d_law_word : ∃ (f : Addr) (fd : FuncData), Fun κ.K "_law_word" "_law_word" (topS 15) f fd ∧ mg "_law_word" = some (.ref f)
  d_law_led : ∃ (f : Addr) (fd : FuncData), Fun κ.K "_law_led" "_law_led" (topS 18) f fd ∧ mg "_law_led" = some (.ref f)
  d_law_leads : ∃ (f : Addr) (fd : FuncData), Fun κ.K "_law_leads" "_law_leads" (topS 20) f fd ∧ mg "_law_leads" = some (.ref f)
  d_law_is_table : ∃ (f : Addr) (fd : FuncData), Fun κ.K "_law_is_table" "_law_is_table" (topS 19) f fd ∧ mg "_law_is_table" = some (.ref f)
  d_law : ∃ (f : Addr) (fd : FuncData), Fun κ.K "law" "law" (topS 21) f fd ∧ mg "law" = some (.ref f)
  z_len : mg "len" = none
  z_range : mg "range" = none
  m_SMALL : ∃ t, mg "SMALL" = some (.str (S c_SMALL) t)
  m_MOST_ROOMS : ∃ t, mg "MOST_ROOMS" = some (.int 8 t)
  z_list : mg "list" = none
  z_isinstance : mg "isinstance" = none
  z_bool : mg "bool" = none
  z_int : mg "int" = none
section
variable {P : Program} {w : World} {κ : Kx} {mg : Str → Option Value} {base : Heap}
abbrev s_law_cell_at : Stmt := topS 13
theorem sc_law_cell_at : FnScope ["_law_script", "_law_k"] ["_law_script", "_law_k"] (defScope s_law_cell_at) := ⟨rfl, rfl, rfl, by decide +kernel, rfl, by decide +kernel, by decide +kernel⟩
theorem fn_law_cell_at {f : Addr} {fd : FuncData} (F : Fun κ.K "_law_cell_at" "_law_cell_at" s_law_cell_at f fd) (T : Txt κ mg) : FnOk P w κ.K mg base (L2.CX P w) 1 f fd ["_law_script", "_law_k"] (spV κ [true, true] g_law_cell_at) := by
  have sc := sc_law_cell_at
  refine F.okX sc (fun vs H Q E h => spV_len h) fun cdv A outer s H vs Q E hr h => ⟨tS κ (fun c d _ H' => E c d H') b_law_cell_at, ?_, v_end (k := 0) rfl h⟩
  have tk : Takes (cxOf (L2.CX P w) P w κ.K mg base ["_law_script", "_law_k"] "_law_cell_at" (defScope s_law_cell_at) f cdv A outer s H E) (fun c d _ H' => E c d H') := takes_of rfl rfl rfl rfl
  have hp := passes_of (X := cxOf (L2.CX P w) P w κ.K mg base ["_law_script", "_law_k"] "_law_cell_at" (defScope s_law_cell_at) f cdv A outer s H E) rfl
  exact s_cons (s_if (t_cmp (o_ltA rfl hr.units) s_ltA (b_var (pv 1)) (v_bo (v_frz (v_callB call_len s_len rfl T.z_len PySem.boot_len (a_bo (b_var (pv 0)) (a_nil))))) (nomark _)) (s_one (s_ret (v_op op_mod s_mod (v_bo (v_ix rfl (b_var (pv 0)) (b_var (pv 1)) (fun _ _ => rfl))) (v_bo (v_frz (v_op op_pow s_pow (v_bo (v_int)) (v_bo (v_int)))))))) (s_nil)) (s_one (s_ret (v_sh (v_int))))
theorem ok_law_cell_at (T : Txt κ mg) : VFn P w κ mg base "_law_cell_at" 1 [true, true] g_law_cell_at := by
  obtain ⟨f, fd, F, hm⟩ := T.d_law_cell_at
  exact ⟨f, fd, ["_law_script", "_law_k"], hm, F.kp, fn_law_cell_at F T, F.binds (ps := ["_law_script", "_law_k"]) fun _ _ _ _ _ _ us hl => match us, hl with | [_, _], _ => rfl⟩
abbrev s_law_letters : Stmt := topS 14
theorem sc_law_letters : FnScope ["_law_cell", "_law_many", "_law_left", "_law_told", "_law_k", "_law_at"] ["_law_cell", "_law_many"] (defScope s_law_letters) := ⟨rfl, rfl, rfl, by decide +kernel, rfl, by decide +kernel, by decide +kernel⟩
theorem fn_law_letters {f : Addr} {fd : FuncData} (F : Fun κ.K "_law_letters" "_law_letters" s_law_letters f fd) (T : Txt κ mg) : FnOk P w κ.K mg base (L2.CX P w) 1 f fd ["_law_cell", "_law_many"] (spV κ [true, true] g_law_letters) := by
  have sc := sc_law_letters
  refine F.okX sc (fun vs H Q E h => spV_len h) fun cdv A outer s H vs Q E hr h => ⟨tS κ (fun c d _ H' => E c d H') b_law_letters, ?_, v_end (k := 4) rfl h⟩
  have tk : Takes (cxOf (L2.CX P w) P w κ.K mg base ["_law_cell", "_law_many", "_law_left", "_law_told", "_law_k", "_law_at"] "_law_letters" (defScope s_law_letters) f cdv A outer s H E) (fun c d _ H' => E c d H') := takes_of rfl rfl rfl rfl
  have hp := passes_of (X := cxOf (L2.CX P w) P w κ.K mg base ["_law_cell", "_law_many", "_law_left", "_law_told", "_law_k", "_law_at"] "_law_letters" (defScope s_law_letters) f cdv A outer s H E) rfl
  exact s_cons (s_asg (i := 2) sc.nd rfl (by first | exact Or.inl rfl | exact Or.inr rfl) (v_sh (v_str (by rfl)))) (s_cons (s_asg (i := 3) sc.nd rfl (by first | exact Or.inl rfl | exact Or.inr rfl) (v_sh (v_str (by rfl)))) (s_cons (s_for hp rfl (i_rg1 rfl rfl T.z_range (a_bo (b_var (pv 1)) (a_nil))) (pg_name (i := 4) sc.nd rfl (by first | exact Or.inl rfl | exact Or.inr rfl)) (tg_name 4) (s_cons (s_asg (i := 5) sc.nd rfl (by first | exact Or.inl rfl | exact Or.inr rfl) (v_op op_mod s_mod (b_var (pv 0)) (v_bo (v_frz (v_callB call_len s_len rfl T.z_len PySem.boot_len (a_bo (b_var (pv 2)) (a_nil))))))) (s_cons (s_asg (i := 0) sc.nd rfl (by first | exact Or.inl rfl | exact Or.inr rfl) (v_op op_fdivW s_div (b_var (pv 0)) (v_bo (v_frz (v_callB call_len s_len rfl T.z_len PySem.boot_len (a_bo (b_var (pv 2)) (a_nil))))))) (s_cons (s_asg (i := 3) sc.nd rfl (by first | exact Or.inl rfl | exact Or.inr rfl) (v_op o_add s_add (b_var (pv 3)) (v_bo (v_ix rfl (b_var (pv 2)) (b_var (pv 5)) (fun _ _ => rfl))))) (s_one (s_asg (i := 2) sc.nd rfl (by first | exact Or.inl rfl | exact Or.inr rfl) (v_op o_add s_add (v_bo (v_frz (v_sl rfl (b_var (pv 2)) (o_none) (o_some (b_var (pv 5)))))) (v_bo (v_frz (v_sl rfl (b_var (pv 2)) (o_some (v_bo (v_frz (v_op o_add s_add (b_var (pv 5)) (v_bo (v_int)))))) (o_none))))))))))) (s_one (s_retV (pv 3)))))
theorem ok_law_letters (T : Txt κ mg) : VFn P w κ mg base "_law_letters" 1 [true, true] g_law_letters := by
  obtain ⟨f, fd, F, hm⟩ := T.d_law_letters
  exact ⟨f, fd, ["_law_cell", "_law_many"], hm, F.kp, fn_law_letters F T, F.binds (ps := ["_law_cell", "_law_many"]) fun _ _ _ _ _ _ us hl => match us, hl with | [_, _], _ => rfl⟩
abbrev s_law_rows : Stmt := topS 17
theorem sc_law_rows : FnScope ["_law_script", "_law_size", "_law_many", "_law_seed", "_law_table", "_law_room", "_law_row", "_law_k"] ["_law_script", "_law_size", "_law_many"] (defScope s_law_rows) := ⟨rfl, rfl, rfl, by decide +kernel, rfl, by decide +kernel, by decide +kernel⟩
theorem fn_law_rows {f : Addr} {fd : FuncData} (F : Fun κ.K "_law_rows" "_law_rows" s_law_rows f fd) (T : Txt κ mg) (K_law_cell_at : VFn P w κ mg base "_law_cell_at" 1 [true, true] g_law_cell_at) : FnOk P w κ.K mg base (L2.CX P w) 2 f fd ["_law_script", "_law_size", "_law_many"] (spV κ [true, true, true] g_law_rows) := by
  have sc := sc_law_rows
  refine F.okX sc (fun vs H Q E h => spV_len h) fun cdv A outer s H vs Q E hr h => ⟨tS κ (fun c d _ H' => E c d H') b_law_rows, ?_, v_end (k := 5) rfl h⟩
  have tk : Takes (cxOf (L2.CX P w) P w κ.K mg base ["_law_script", "_law_size", "_law_many", "_law_seed", "_law_table", "_law_room", "_law_row", "_law_k"] "_law_rows" (defScope s_law_rows) f cdv A outer s H E) (fun c d _ H' => E c d H') := takes_of rfl rfl rfl rfl
  have hp := passes_of (X := cxOf (L2.CX P w) P w κ.K mg base ["_law_script", "_law_size", "_law_many", "_law_seed", "_law_table", "_law_room", "_law_row", "_law_k"] "_law_rows" (defScope s_law_rows) f cdv A outer s H E) rfl
  exact s_cons (s_asg (i := 3) sc.nd rfl (by first | exact Or.inl rfl | exact Or.inr rfl) (v_call K_law_cell_at rfl (hr.mono (by decide)) tk rfl (a_bo (b_var (pv 0)) (a_bo (v_bo (v_int)) (a_nil))))) (s_cons (s_asg (i := 4) sc.nd rfl (by first | exact Or.inl rfl | exact Or.inr rfl) (v_lst (ms := []) rfl (a_nil))) (s_cons (s_for hp rfl (i_rg1 rfl rfl T.z_range (a_bo (b_var (pv 1)) (a_nil))) (pg_name (i := 5) sc.nd rfl (by first | exact Or.inl rfl | exact Or.inr rfl)) (tg_name 5) (s_cons (s_asg (i := 6) sc.nd rfl (by first | exact Or.inl rfl | exact Or.inr rfl) (v_lst (ms := []) rfl (a_nil))) (s_cons (s_for hp rfl (i_rg1 rfl rfl T.z_range (a_bo (b_var (pv 2)) (a_nil))) (pg_name (i := 7) sc.nd rfl (by first | exact Or.inl rfl | exact Or.inr rfl)) (tg_name 7) (s_cons (s_asg (i := 3) sc.nd rfl (by first | exact Or.inl rfl | exact Or.inr rfl) (v_op op_mod s_mod (v_bo (v_frz (v_op o_add s_add (v_bo (v_frz (v_op o_mul s_mul (b_var (pv 3)) (v_bo (v_int))))) (v_bo (v_frz (v_call K_law_cell_at rfl (hr.mono (by decide)) tk rfl (a_bo (b_var (pv 0)) (a_bo (v_bo (v_frz (v_op o_add s_add (v_bo (v_frz (v_op o_add s_add (v_bo (v_int)) (v_bo (v_frz (v_op o_mul s_mul (b_var (pv 5)) (b_var (pv 2)))))))) (b_var (pv 7))))) (a_nil))))))))) (v_bo (v_int)))) (s_one (s_app (i := 6) rfl (pv 6) (v_frz (v_op op_mod s_mod (b_var (pv 3)) (b_var (pv 1)))))))) (s_one (s_app (i := 4) rfl (pv 4) (v_var (pv 6))))))) (s_one (s_retV (pv 4)))))
theorem ok_law_rows (T : Txt κ mg) (K_law_cell_at : VFn P w κ mg base "_law_cell_at" 1 [true, true] g_law_cell_at) : VFn P w κ mg base "_law_rows" 2 [true, true, true] g_law_rows := by
  obtain ⟨f, fd, F, hm⟩ := T.d_law_rows
  exact ⟨f, fd, ["_law_script", "_law_size", "_law_many"], hm, F.kp, fn_law_rows F T K_law_cell_at, F.binds (ps := ["_law_script", "_law_size", "_law_many"]) fun _ _ _ _ _ _ us hl => match us, hl with | [_, _, _], _ => rfl⟩
abbrev s_letters_of : Stmt := topS 7
theorem sc_letters_of : FnScope ["text", "k"] ["text"] (defScope s_letters_of) := ⟨rfl, rfl, rfl, by decide +kernel, rfl, by decide +kernel, by decide +kernel⟩
theorem fn_letters_of {f : Addr} {fd : FuncData} (F : Fun κ.K "letters_of" "letters_of" s_letters_of f fd) (T : Txt κ mg) : FnOk P w κ.K mg base (L2.CX P w) 1 f fd ["text"] (spV κ [false] g_letters_of) := by
  have sc := sc_letters_of
  refine F.okX sc (fun vs H Q E h => spV_len h) fun cdv A outer s H vs Q E hr h => ⟨tS κ (fun c d _ H' => E c d H') b_letters_of, ?_, v_end (k := 1) rfl h⟩
  have tk : Takes (cxOf (L2.CX P w) P w κ.K mg base ["text", "k"] "letters_of" (defScope s_letters_of) f cdv A outer s H E) (fun c d _ H' => E c d H') := takes_of rfl rfl rfl rfl
  have hp := passes_of (X := cxOf (L2.CX P w) P w κ.K mg base ["text", "k"] "letters_of" (defScope s_letters_of) f cdv A outer s H E) rfl
  exact s_cons (s_if (PW.pt (w_or (t_cmp (o_ltA rfl hr.units) s_ltA (v_bo (v_frz (v_callB call_len s_len rfl T.z_len PySem.boot_len (a_bo (b_var (pv 0)) (a_nil))))) (v_bo (v_int)) (nomark _)) (w_or1 (t_cmp o_gt s_cm (v_bo (v_frz (v_callB call_len s_len rfl T.z_len PySem.boot_len (a_bo (b_var (pv 0)) (a_nil))))) (v_bo (v_int)) (nomark _))))) (s_one (s_raise0 (c := 1) rfl rfl (congrFun T.xf 1) tk T.g_NoLetters T.e_NoLetters T.k_NoLetters T.b_NoLetters T.t_NoLetters rfl)) (s_nil)) (s_cons (s_for hp rfl (i_rg1 rfl rfl T.z_range (a_bo (v_bo (v_frz (v_callB call_len s_len rfl T.z_len PySem.boot_len (a_bo (b_var (pv 0)) (a_nil))))) (a_nil))) (pg_name (i := 1) sc.nd rfl (by first | exact Or.inl rfl | exact Or.inr rfl)) (tg_name 1) (s_one (s_if (PW.pt (w_or (t_cmp (o_ninA rfl (units65 hr)) s_ninA (v_bo (v_ix rfl (b_var (pv 0)) (b_var (pv 1)) (fun _ _ => rfl))) (v_bo (v_const (pe_glob (v := .str (S c_SMALL)) rfl T.m_SMALL.choose_spec ⟨_, rfl⟩) (fun _ => .str _))) (by rfl)) (w_or1 (t_cmp (o_inA rfl (units65 hr)) s_inA (v_bo (v_ix rfl (b_var (pv 0)) (b_var (pv 1)) (fun _ _ => rfl))) (v_bo (v_frz (v_sl rfl (b_var (pv 0)) (o_none) (o_some (b_var (pv 1)))))) (by rfl))))) (s_one (s_raise0 (c := 1) rfl rfl (congrFun T.xf 1) tk T.g_NoLetters T.e_NoLetters T.k_NoLetters T.b_NoLetters T.t_NoLetters rfl)) (s_nil)))) (s_one (s_retV (pv 0))))
theorem ok_letters_of (T : Txt κ mg) : VFn P w κ mg base "letters_of" 1 [false] g_letters_of := by
  obtain ⟨f, fd, F, hm⟩ := T.d_letters_of
  exact ⟨f, fd, ["text"], hm, F.kp, fn_letters_of F T, F.binds (ps := ["text"]) fun _ _ _ _ _ _ us hl => match us, hl with | [_], _ => rfl⟩
abbrev s_is_table : Stmt := topS 10
theorem sc_is_table : FnScope ["letters", "table", "row", "room"] ["letters", "table"] (defScope s_is_table) := ⟨rfl, rfl, rfl, by decide +kernel, rfl, by decide +kernel, by decide +kernel⟩
theorem fn_is_table {f : Addr} {fd : FuncData} (F : Fun κ.K "is_table" "is_table" s_is_table f fd) (T : Txt κ mg) : FnOk P w κ.K mg base (L2.CX P w) 1 f fd ["letters", "table"] (spV κ [true, true] g_is_table) := by
  have sc := sc_is_table
  refine F.okX sc (fun vs H Q E h => spV_len h) fun cdv A outer s H vs Q E hr h => ⟨tS κ (fun c d _ H' => E c d H') b_is_table, ?_, v_end (k := 2) rfl h⟩
  have tk : Takes (cxOf (L2.CX P w) P w κ.K mg base ["letters", "table", "row", "room"] "is_table" (defScope s_is_table) f cdv A outer s H E) (fun c d _ H' => E c d H') := takes_of rfl rfl rfl rfl
  have hp := passes_of (X := cxOf (L2.CX P w) P w κ.K mg base ["letters", "table", "row", "room"] "is_table" (defScope s_is_table) f cdv A outer s H E) rfl
  exact s_cons (s_if (t_not (t_chain (o_leA rfl hr.units) s_leA (o_leA rfl hr.units) s_leA (v_bo (v_int)) (v_bo (v_frz (v_callB call_len s_len rfl T.z_len PySem.boot_len (a_bo (b_var (pv 1)) (a_nil))))) (v_bo (v_const (pe_glob (v := .int 8) rfl T.m_MOST_ROOMS.choose_spec ⟨_, rfl⟩) (fun _ => .int _))))) (s_one (s_ret (v_sh (v_bl)))) (s_nil)) (s_cons (s_lock (i := 1) (s_for hp rfl (i_anyN rfl (pv 1)) (pg_name (i := 2) sc.nd rfl (by first | exact Or.inl rfl | exact Or.inr rfl)) (tg_name 2) (s_cons (s_if (t_cmp (o_ne rfl hr.units) s_ne (v_bo (v_frz (v_callB call_len s_len rfl T.z_len PySem.boot_len (a_bo (b_var (pv 2)) (a_nil))))) (v_bo (v_frz (v_callB call_len s_len rfl T.z_len PySem.boot_len (a_bo (b_var (pv 0)) (a_nil))))) (nomark _)) (s_one (s_ret (v_sh (v_bl)))) (s_nil)) (s_one (s_lock (i := 2) (s_for hp rfl (i_anyN rfl (pv 2)) (pg_name (i := 3) sc.nd rfl (by first | exact Or.inl rfl | exact Or.inr rfl)) (tg_name 3) (s_one (s_if (t_not (t_chain (o_leA rfl hr.units) s_leA (o_ltA rfl hr.units) s_ltA (v_bo (v_int)) (b_var (pv 3)) (v_bo (v_frz (v_callB call_len s_len rfl T.z_len PySem.boot_len (a_bo (b_var (pv 1)) (a_nil))))))) (s_one (s_ret (v_sh (v_bl)))) (s_nil))))))))) (s_one (s_ret (v_sh (v_bl)))))
theorem ok_is_table (T : Txt κ mg) : VFn P w κ mg base "is_table" 1 [true, true] g_is_table := by
  obtain ⟨f, fd, F, hm⟩ := T.d_is_table
  exact ⟨f, fd, ["letters", "table"], hm, F.kp, fn_is_table F T, F.binds (ps := ["letters", "table"]) fun _ _ _ _ _ _ us hl => match us, hl with | [_, _], _ => rfl⟩
abbrev s_World_init : Stmt := inClass (topS 11) 0
theorem sc_World_init : FnScope ["self", "letters", "table", "row"] ["self", "letters", "table"] (defScope s_World_init) := ⟨rfl, rfl, rfl, by decide +kernel, rfl, by decide +kernel, by decide +kernel⟩
theorem fn_World_init {f : Addr} {fd : FuncData} (F : Fun κ.K "__init__" "World.__init__" s_World_init f fd) (T : Txt κ mg) (K_letters_of : VFn P w κ mg base "letters_of" 1 [false] g_letters_of) (K_is_table : VFn P w κ mg base "is_table" 1 [true, true] g_is_table) : FnOk P w κ.K mg base (L2.CX P w) 2 f fd ["self", "letters", "table"] (spI κ 0 [false, true] g_World_init) := by
  have sc := sc_World_init
  refine F.okX sc (fun vs H Q E h => spI_len h) fun cdv A outer s H vs Q E hr h => ⟨tS κ (fun c d _ H' => E c d H') b_World_init, ?_, v_endI (k := 1) rfl h⟩
  have tk : Takes (cxOf (L2.CX P w) P w κ.K mg base ["self", "letters", "table", "row"] "World.__init__" (defScope s_World_init) f cdv A outer s H E) (fun c d _ H' => E c d H') := takes_of rfl rfl rfl rfl
  have hp := passes_of (X := cxOf (L2.CX P w) P w κ.K mg base ["self", "letters", "table", "row"] "World.__init__" (defScope s_World_init) f cdv A outer s H E) rfl
  exact s_cons (s_fld (i := 0) T.fld_letters rfl (pv 0) (i_sh (im (v_frz (v_call K_letters_of rfl (hr.mono (by decide)) tk rfl (a_sh (v_var (pv 1)) (a_nil))))))) (s_cons (s_if (t_not (t_tru rfl (v_bo (v_frz (v_call K_is_table rfl (hr.mono (by decide)) tk rfl (a_bo (b_var (pv 1)) (a_bo (b_var (pv 2)) (a_nil)))))))) (s_one (s_raise0 (c := 2) rfl rfl (congrFun T.xf 2) tk T.g_NoWorld T.e_NoWorld T.k_NoWorld T.b_NoWorld T.t_NoWorld rfl)) (s_nil)) (s_one (s_fld (i := 0) T.fld_table rfl (pv 0) (i_sh (im (v_frz (v_lock (i := 2) (v_lc (own := [("row", 3)]) (vs := [3]) rfl sc.nd rfl (i_anyN rfl (pv 2)) (blkOk_by (own := [("row", 3)]) (N := ["self", "letters", "table", "row"]) (sc := defScope s_World_init) (by decide +kernel)) (fun _ _ _ _ _ => pg_name (i := 3) sc.nd rfl (by first | exact Or.inl rfl | exact Or.inr rfl)) (to_name 3 rfl) (fun _ _ _ _ _ => pts_yes) (fun _ _ _ _ _ => v_frz (v_callTy call_list_of s_list rfl T.z_list (by decide +kernel) (a_bo (b_var (pv 3)) (a_nil))))))))))))
theorem okN_World (T : Txt κ mg) (K_letters_of : VFn P w κ mg base "letters_of" 1 [false] g_letters_of) (K_is_table : VFn P w κ mg base "is_table" 1 [true, true] g_is_table) : VMk P w κ mg base "World" 0 2 [false, true] g_World_init := by
  obtain ⟨f, fd, hm, M, F⟩ := T.mk_World
  exact ⟨f, fd, ["self", "letters", "table"], hm, M, fn_World_init F T K_letters_of K_is_table, F.binds (ps := ["self", "letters", "table"]) fun _ _ _ _ _ _ us hl => match us, hl with | [_, _, _], _ => rfl⟩
abbrev s_law_whole : Stmt := topS 16
theorem sc_law_whole : FnScope ["_law_found"] ["_law_found"] (defScope s_law_whole) := ⟨rfl, rfl, rfl, by decide +kernel, rfl, by decide +kernel, by decide +kernel⟩
theorem fn_law_whole {f : Addr} {fd : FuncData} (F : Fun κ.K "_law_whole" "_law_whole" s_law_whole f fd) (T : Txt κ mg) : FnOk P w κ.K mg base (L2.CX P w) 1 f fd ["_law_found"] (spV κ [true] g_law_whole) := by
  have sc := sc_law_whole
  refine F.okX sc (fun vs H Q E h => spV_len h) fun cdv A outer s H vs Q E hr h => ⟨tS κ (fun c d _ H' => E c d H') b_law_whole, ?_, v_end (k := 0) rfl h⟩
  have tk : Takes (cxOf (L2.CX P w) P w κ.K mg base ["_law_found"] "_law_whole" (defScope s_law_whole) f cdv A outer s H E) (fun c d _ H' => E c d H') := takes_of rfl rfl rfl rfl
  have hp := passes_of (X := cxOf (L2.CX P w) P w κ.K mg base ["_law_found"] "_law_whole" (defScope s_law_whole) f cdv A outer s H E) rfl
  exact s_one (s_ret (v_sh (v_and (v_isi .int rfl rfl T.z_isinstance (pe_bltn (v := .ty "int") rfl T.z_int (by decide +kernel) rfl) (b_var (pv 0))) (v_one (v_not (v_isi .bool rfl rfl T.z_isinstance (pe_bltn (v := .ty "bool") rfl T.z_bool (by decide +kernel) rfl) (b_var (pv 0))))))))
theorem ok_law_whole (T : Txt κ mg) : VFn P w κ mg base "_law_whole" 1 [true] g_law_whole := by
  obtain ⟨f, fd, F, hm⟩ := T.d_law_whole
  exact ⟨f, fd, ["_law_found"], hm, F.kp, fn_law_whole F T, F.binds (ps := ["_law_found"]) fun _ _ _ _ _ _ us hl => match us, hl with | [_], _ => rfl⟩
abbrev s_World_rooms : Stmt := inClass (topS 11) 1
theorem sc_World_rooms : FnScope ["self"] ["self"] (defScope s_World_rooms) := ⟨rfl, rfl, rfl, by decide +kernel, rfl, by decide +kernel, by decide +kernel⟩
theorem fn_World_rooms {f : Addr} {fd : FuncData} (F : Fun κ.K "rooms" "World.rooms" s_World_rooms f fd) (T : Txt κ mg) : FnOk P w κ.K mg base (L2.CX P w) 1 f fd ["self"] (spV κ [false] g_World_rooms) := by
  have sc := sc_World_rooms
  refine F.okX sc (fun vs H Q E h => spV_len h) fun cdv A outer s H vs Q E hr h => ⟨tS κ (fun c d _ H' => E c d H') b_World_rooms, ?_, v_end (k := 0) rfl h⟩
  have tk : Takes (cxOf (L2.CX P w) P w κ.K mg base ["self"] "World.rooms" (defScope s_World_rooms) f cdv A outer s H E) (fun c d _ H' => E c d H') := takes_of rfl rfl rfl rfl
  have hp := passes_of (X := cxOf (L2.CX P w) P w κ.K mg base ["self"] "World.rooms" (defScope s_World_rooms) f cdv A outer s H E) rfl
  exact s_one (s_ret (v_callB call_len s_len rfl T.z_len PySem.boot_len (a_bo (v_bo (v_fld T.fld_table rfl (v_var (pv 0)))) (a_nil))))
theorem okM_rooms (T : Txt κ mg) : VMs P w κ mg base "rooms" 1 [] gs_rooms := fun c g e => match c, e with
  | 0, e => by
    cases e
    obtain ⟨f, fd, F, h1, h2, h3⟩ := T.m_0_rooms
    exact ⟨1, by decide, f, fd, ["self"], h1, h2, h3, fn_World_rooms F T, F.binds (ps := ["self"]) fun _ _ _ _ _ _ us hl => match us, hl with | [_], _ => rfl⟩
  | n + 1, e => by
    have e : (none : Option FSem) = some g := e
    cases e
abbrev s_law_word : Stmt := topS 15
theorem sc_law_word : FnScope ["_law_letters_here", "_law_cell", "_law_size", "_law_word_here", "_law_k"] ["_law_letters_here", "_law_cell", "_law_size"] (defScope s_law_word) := ⟨rfl, rfl, rfl, by decide +kernel, rfl, by decide +kernel, by decide +kernel⟩
theorem fn_law_word {f : Addr} {fd : FuncData} (F : Fun κ.K "_law_word" "_law_word" s_law_word f fd) (T : Txt κ mg) : FnOk P w κ.K mg base (L2.CX P w) 1 f fd ["_law_letters_here", "_law_cell", "_law_size"] (spV κ [true, true, true] g_law_word) := by
  have sc := sc_law_word
  refine F.okX sc (fun vs H Q E h => spV_len h) fun cdv A outer s H vs Q E hr h => ⟨tS κ (fun c d _ H' => E c d H') b_law_word, ?_, v_end (k := 2) rfl h⟩
  have tk : Takes (cxOf (L2.CX P w) P w κ.K mg base ["_law_letters_here", "_law_cell", "_law_size", "_law_word_here", "_law_k"] "_law_word" (defScope s_law_word) f cdv A outer s H E) (fun c d _ H' => E c d H') := takes_of rfl rfl rfl rfl
  have hp := passes_of (X := cxOf (L2.CX P w) P w κ.K mg base ["_law_letters_here", "_law_cell", "_law_size", "_law_word_here", "_law_k"] "_law_word" (defScope s_law_word) f cdv A outer s H E) rfl
  exact s_cons (s_asg (i := 3) sc.nd rfl (by first | exact Or.inl rfl | exact Or.inr rfl) (v_sh (v_str (by rfl)))) (s_cons (s_for hp rfl (i_rg1 rfl rfl T.z_range (a_bo (b_var (pv 2)) (a_nil))) (pg_name (i := 4) sc.nd rfl (by first | exact Or.inl rfl | exact Or.inr rfl)) (tg_name 4) (s_cons (s_asg (i := 3) sc.nd rfl (by first | exact Or.inl rfl | exact Or.inr rfl) (v_op o_add s_add (b_var (pv 3)) (v_bo (v_ix rfl (b_var (pv 0)) (v_bo (v_frz (v_op op_mod s_mod (b_var (pv 1)) (v_bo (v_frz (v_callB call_len s_len rfl T.z_len PySem.boot_len (a_bo (b_var (pv 0)) (a_nil)))))))) (fun _ _ => rfl))))) (s_one (s_asg (i := 1) sc.nd rfl (by first | exact Or.inl rfl | exact Or.inr rfl) (v_op op_fdivW s_div (b_var (pv 1)) (v_bo (v_frz (v_callB call_len s_len rfl T.z_len PySem.boot_len (a_bo (b_var (pv 0)) (a_nil)))))))))) (s_one (s_retV (pv 3))))
theorem ok_law_word (T : Txt κ mg) : VFn P w κ mg base "_law_word" 1 [true, true, true] g_law_word := by
  obtain ⟨f, fd, F, hm⟩ := T.d_law_word
  exact ⟨f, fd, ["_law_letters_here", "_law_cell", "_law_size"], hm, F.kp, fn_law_word F T, F.binds (ps := ["_law_letters_here", "_law_cell", "_law_size"]) fun _ _ _ _ _ _ us hl => match us, hl with | [_, _, _], _ => rfl⟩
abbrev s_World_led : Stmt := inClass (topS 11) 3
theorem sc_World_led : FnScope ["self", "room", "word", "letter"] ["self", "room", "word"] (defScope s_World_led) := ⟨rfl, rfl, rfl, by decide +kernel, rfl, by decide +kernel, by decide +kernel⟩
theorem fn_World_led {f : Addr} {fd : FuncData} (F : Fun κ.K "led" "World.led" s_World_led f fd) (T : Txt κ mg) : FnOk P w κ.K mg base (L2.CX P w) 1 f fd ["self", "room", "word"] (spV κ [false, false, true] g_World_led) := by
  have sc := sc_World_led
  refine F.okX sc (fun vs H Q E h => spV_len h) fun cdv A outer s H vs Q E hr h => ⟨tS κ (fun c d _ H' => E c d H') b_World_led, ?_, v_end (k := 1) rfl h⟩
  have tk : Takes (cxOf (L2.CX P w) P w κ.K mg base ["self", "room", "word", "letter"] "World.led" (defScope s_World_led) f cdv A outer s H E) (fun c d _ H' => E c d H') := takes_of rfl rfl rfl rfl
  have hp := passes_of (X := cxOf (L2.CX P w) P w κ.K mg base ["self", "room", "word", "letter"] "World.led" (defScope s_World_led) f cdv A outer s H E) rfl
  exact s_cons (s_lock (i := 2) (s_for hp rfl (i_anyN rfl (pv 2)) (pg_name (i := 3) sc.nd rfl (by first | exact Or.inl rfl | exact Or.inr rfl)) (tg_name 3) (s_one (s_asg (i := 1) sc.nd rfl (by first | exact Or.inl rfl | exact Or.inr rfl) (v_sh (v_ix rfl (v_bo (v_ix rfl (v_bo (v_fld T.fld_table rfl (v_var (pv 0)))) (b_var (pv 1)) (fun _ _ => rfl))) (v_bo (v_frz (v_find (v_bo (v_fld T.fld_letters rfl (v_var (pv 0)))) (b_var (pv 3))))) (fun _ _ => rfl))))))) (s_one (s_retV (pv 1)))
theorem okM_led (T : Txt κ mg) : VMs P w κ mg base "led" 1 [false, true] gs_led := fun c g e => match c, e with
  | 0, e => by
    cases e
    obtain ⟨f, fd, F, h1, h2, h3⟩ := T.m_0_led
    exact ⟨1, by decide, f, fd, ["self", "room", "word"], h1, h2, h3, fn_World_led F T, F.binds (ps := ["self", "room", "word"]) fun _ _ _ _ _ _ us hl => match us, hl with | [_, _, _], _ => rfl⟩
  | n + 1, e => by
    have e : (none : Option FSem) = some g := e
    cases e
abbrev s_law_led : Stmt := topS 18
theorem sc_law_led : FnScope ["_law_table", "_law_letters_here", "_law_room", "_law_word_here", "_law_sign"] ["_law_table", "_law_letters_here", "_law_room", "_law_word_here"] (defScope s_law_led) := ⟨rfl, rfl, rfl, by decide +kernel, rfl, by decide +kernel, by decide +kernel⟩
theorem fn_law_led {f : Addr} {fd : FuncData} (F : Fun κ.K "_law_led" "_law_led" s_law_led f fd) (T : Txt κ mg) : FnOk P w κ.K mg base (L2.CX P w) 1 f fd ["_law_table", "_law_letters_here", "_law_room", "_law_word_here"] (spV κ [true, true, false, true] g_law_led) := by
  have sc := sc_law_led
  refine F.okX sc (fun vs H Q E h => spV_len h) fun cdv A outer s H vs Q E hr h => ⟨tS κ (fun c d _ H' => E c d H') b_law_led, ?_, v_end (k := 1) rfl h⟩
  have tk : Takes (cxOf (L2.CX P w) P w κ.K mg base ["_law_table", "_law_letters_here", "_law_room", "_law_word_here", "_law_sign"] "_law_led" (defScope s_law_led) f cdv A outer s H E) (fun c d _ H' => E c d H') := takes_of rfl rfl rfl rfl
  have hp := passes_of (X := cxOf (L2.CX P w) P w κ.K mg base ["_law_table", "_law_letters_here", "_law_room", "_law_word_here", "_law_sign"] "_law_led" (defScope s_law_led) f cdv A outer s H E) rfl
  exact s_cons (s_lock (i := 3) (s_for hp rfl (i_anyN rfl (pv 3)) (pg_name (i := 4) sc.nd rfl (by first | exact Or.inl rfl | exact Or.inr rfl)) (tg_name 4) (s_one (s_asg (i := 2) sc.nd rfl (by first | exact Or.inl rfl | exact Or.inr rfl) (v_sh (v_ix rfl (v_bo (v_ix rfl (b_var (pv 0)) (b_var (pv 2)) (fun _ _ => rfl))) (v_bo (v_frz (v_find (b_var (pv 1)) (b_var (pv 4))))) (fun _ _ => rfl))))))) (s_one (s_retV (pv 2)))
theorem ok_law_led (T : Txt κ mg) : VFn P w κ mg base "_law_led" 1 [true, true, false, true] g_law_led := by
  obtain ⟨f, fd, F, hm⟩ := T.d_law_led
  exact ⟨f, fd, ["_law_table", "_law_letters_here", "_law_room", "_law_word_here"], hm, F.kp, fn_law_led F T, F.binds (ps := ["_law_table", "_law_letters_here", "_law_room", "_law_word_here"]) fun _ _ _ _ _ _ us hl => match us, hl with | [_, _, _, _], _ => rfl⟩
abbrev s_law_leads : Stmt := topS 20
theorem sc_law_leads : FnScope ["_law_world", "_law_table", "_law_letters_here", "_law_one", "_law_other", "_law_room", "_law_found", "_law_joined"] ["_law_world", "_law_table", "_law_letters_here", "_law_one", "_law_other"] (defScope s_law_leads) := ⟨rfl, rfl, rfl, by decide +kernel, rfl, by decide +kernel, by decide +kernel⟩
theorem fn_law_leads {f : Addr} {fd : FuncData} (F : Fun κ.K "_law_leads" "_law_leads" s_law_leads f fd) (T : Txt κ mg) (M_led : VMs P w κ mg base "led" 1 [false, true] gs_led) (K_law_led : VFn P w κ mg base "_law_led" 1 [true, true, false, true] g_law_led) (K_law_whole : VFn P w κ mg base "_law_whole" 1 [true] g_law_whole) : FnOk P w κ.K mg base (L2.CX P w) 2 f fd ["_law_world", "_law_table", "_law_letters_here", "_law_one", "_law_other"] (spV κ [false, true, true, true, true] g_law_leads) := by
  have sc := sc_law_leads
  refine F.okX sc (fun vs H Q E h => spV_len h) fun cdv A outer s H vs Q E hr h => ⟨tS κ (fun c d _ H' => E c d H') b_law_leads, ?_, v_end (k := 3) rfl h⟩
  have tk : Takes (cxOf (L2.CX P w) P w κ.K mg base ["_law_world", "_law_table", "_law_letters_here", "_law_one", "_law_other", "_law_room", "_law_found", "_law_joined"] "_law_leads" (defScope s_law_leads) f cdv A outer s H E) (fun c d _ H' => E c d H') := takes_of rfl rfl rfl rfl
  have hp := passes_of (X := cxOf (L2.CX P w) P w κ.K mg base ["_law_world", "_law_table", "_law_letters_here", "_law_one", "_law_other", "_law_room", "_law_found", "_law_joined"] "_law_leads" (defScope s_law_leads) f cdv A outer s H E) rfl
  exact s_cons (s_for hp rfl (i_rg1 rfl rfl T.z_range (a_bo (v_bo (v_frz (v_callB call_len s_len rfl T.z_len PySem.boot_len (a_bo (b_var (pv 1)) (a_nil))))) (a_nil))) (pg_name (i := 5) sc.nd rfl (by first | exact Or.inl rfl | exact Or.inr rfl)) (tg_name 5) (s_cons (s_asg (i := 6) sc.nd rfl (by first | exact Or.inl rfl | exact Or.inr rfl) (v_meth (ms := [false, true]) M_led rfl (hr.mono (by decide)) tk (v_var (pv 0)) (a_sh (v_var (pv 5)) (a_bo (b_var (pv 3)) (a_nil))))) (s_cons (s_if (PW.pt (w_or (t_not (t_tru rfl (v_bo (v_frz (v_call K_law_whole rfl (hr.mono (by decide)) tk rfl (a_bo (b_var (pv 6)) (a_nil))))))) (w_or1 (t_cmp (o_ne rfl hr.units) s_ne (b_var (pv 6)) (v_bo (v_frz (v_call K_law_led rfl (hr.mono (by decide)) tk rfl (a_bo (b_var (pv 1)) (a_bo (b_var (pv 2)) (a_sh (v_var (pv 5)) (a_bo (b_var (pv 3)) (a_nil)))))))) (nomark _))))) (s_one (s_ret (v_sh (v_bl)))) (s_nil)) (s_cons (s_asg (i := 7) sc.nd rfl (by first | exact Or.inl rfl | exact Or.inr rfl) (v_meth (ms := [false, true]) M_led rfl (hr.mono (by decide)) tk (v_var (pv 0)) (a_sh (v_var (pv 5)) (a_bo (v_bo (v_frz (v_op o_add s_add (b_var (pv 3)) (b_var (pv 4))))) (a_nil))))) (s_cons (s_if (PW.pt (w_or (t_not (t_tru rfl (v_bo (v_frz (v_call K_law_whole rfl (hr.mono (by decide)) tk rfl (a_bo (b_var (pv 7)) (a_nil))))))) (w_or1 (t_cmp (o_ne rfl hr.units) s_ne (b_var (pv 7)) (v_bo (v_frz (v_meth (ms := [false, true]) M_led rfl (hr.mono (by decide)) tk (v_var (pv 0)) (a_sh (v_var (pv 6)) (a_bo (b_var (pv 4)) (a_nil)))))) (nomark _))))) (s_one (s_ret (v_sh (v_bl)))) (s_nil)) (s_one (s_if (t_cmp (o_ne rfl hr.units) s_ne (b_var (pv 7)) (v_bo (v_frz (v_call K_law_led rfl (hr.mono (by decide)) tk rfl (a_bo (b_var (pv 1)) (a_bo (b_var (pv 2)) (a_sh (v_var (pv 6)) (a_bo (b_var (pv 4)) (a_nil)))))))) (nomark _)) (s_one (s_ret (v_sh (v_bl)))) (s_nil)))))))) (s_one (s_ret (v_sh (v_bl))))
theorem ok_law_leads (T : Txt κ mg) (M_led : VMs P w κ mg base "led" 1 [false, true] gs_led) (K_law_led : VFn P w κ mg base "_law_led" 1 [true, true, false, true] g_law_led) (K_law_whole : VFn P w κ mg base "_law_whole" 1 [true] g_law_whole) : VFn P w κ mg base "_law_leads" 2 [false, true, true, true, true] g_law_leads := by
  obtain ⟨f, fd, F, hm⟩ := T.d_law_leads
  exact ⟨f, fd, ["_law_world", "_law_table", "_law_letters_here", "_law_one", "_law_other"], hm, F.kp, fn_law_leads F T M_led K_law_led K_law_whole, F.binds (ps := ["_law_world", "_law_table", "_law_letters_here", "_law_one", "_law_other"]) fun _ _ _ _ _ _ us hl => match us, hl with | [_, _, _, _, _], _ => rfl⟩
abbrev s_World_table_told : Stmt := inClass (topS 11) 2
theorem sc_World_table_told : FnScope ["self", "row"] ["self"] (defScope s_World_table_told) := ⟨rfl, rfl, rfl, by decide +kernel, rfl, by decide +kernel, by decide +kernel⟩
theorem fn_World_table_told {f : Addr} {fd : FuncData} (F : Fun κ.K "table_told" "World.table_told" s_World_table_told f fd) (T : Txt κ mg) : FnOk P w κ.K mg base (L2.CX P w) 1 f fd ["self"] (spV κ [false] g_World_table_told) := by
  have sc := sc_World_table_told
  refine F.okX sc (fun vs H Q E h => spV_len h) fun cdv A outer s H vs Q E hr h => ⟨tS κ (fun c d _ H' => E c d H') b_World_table_told, ?_, v_end (k := 1) rfl h⟩
  have tk : Takes (cxOf (L2.CX P w) P w κ.K mg base ["self", "row"] "World.table_told" (defScope s_World_table_told) f cdv A outer s H E) (fun c d _ H' => E c d H') := takes_of rfl rfl rfl rfl
  have hp := passes_of (X := cxOf (L2.CX P w) P w κ.K mg base ["self", "row"] "World.table_told" (defScope s_World_table_told) f cdv A outer s H E) rfl
  exact s_one (s_ret (v_lcO (own := [("row", 1)]) (vs := [1]) rfl sc.nd rfl (i_any rfl (v_fld T.fld_table rfl (v_var (pv 0)))) (blkOk_by (own := [("row", 1)]) (N := ["self", "row"]) (sc := defScope s_World_table_told) (by decide +kernel)) (fun _ _ _ _ _ => pg_name (i := 1) sc.nd rfl (by first | exact Or.inl rfl | exact Or.inr rfl)) (to_name 1 rfl) (fun _ _ _ _ _ => pts_yes) (fun _ _ _ _ _ => v_callTy call_list_of s_list rfl T.z_list (by decide +kernel) (a_bo (b_var (pv 1)) (a_nil)))))
theorem okM_table_told (T : Txt κ mg) : VMs P w κ mg base "table_told" 1 [] gs_table_told := fun c g e => match c, e with
  | 0, e => by
    cases e
    obtain ⟨f, fd, F, h1, h2, h3⟩ := T.m_0_table_told
    exact ⟨1, by decide, f, fd, ["self"], h1, h2, h3, fn_World_table_told F T, F.binds (ps := ["self"]) fun _ _ _ _ _ _ us hl => match us, hl with | [_], _ => rfl⟩
  | n + 1, e => by
    have e : (none : Option FSem) = some g := e
    cases e
abbrev s_law_is_table : Stmt := topS 19
theorem sc_law_is_table : FnScope ["_law_found", "_law_size", "_law_many", "_law_row", "_law_room"] ["_law_found", "_law_size", "_law_many"] (defScope s_law_is_table) := ⟨rfl, rfl, rfl, by decide +kernel, rfl, by decide +kernel, by decide +kernel⟩
theorem fn_law_is_table {f : Addr} {fd : FuncData} (F : Fun κ.K "_law_is_table" "_law_is_table" s_law_is_table f fd) (T : Txt κ mg) (K_law_whole : VFn P w κ mg base "_law_whole" 1 [true] g_law_whole) : FnOk P w κ.K mg base (L2.CX P w) 2 f fd ["_law_found", "_law_size", "_law_many"] (spV κ [true, true, true] g_law_is_table) := by
  have sc := sc_law_is_table
  refine F.okX sc (fun vs H Q E h => spV_len h) fun cdv A outer s H vs Q E hr h => ⟨tS κ (fun c d _ H' => E c d H') b_law_is_table, ?_, v_end (k := 2) rfl h⟩
  have tk : Takes (cxOf (L2.CX P w) P w κ.K mg base ["_law_found", "_law_size", "_law_many", "_law_row", "_law_room"] "_law_is_table" (defScope s_law_is_table) f cdv A outer s H E) (fun c d _ H' => E c d H') := takes_of rfl rfl rfl rfl
  have hp := passes_of (X := cxOf (L2.CX P w) P w κ.K mg base ["_law_found", "_law_size", "_law_many", "_law_row", "_law_room"] "_law_is_table" (defScope s_law_is_table) f cdv A outer s H E) rfl
  exact s_cons (s_if (PW.pt (w_or (t_not (t_tru rfl (v_bo (v_isi .list rfl rfl T.z_isinstance (pe_bltn (v := .ty "list") rfl T.z_list (by decide +kernel) rfl) (b_var (pv 0)))))) (w_or1 (t_cmp (o_ne rfl hr.units) s_ne (v_bo (v_frz (v_callB call_len s_len rfl T.z_len PySem.boot_len (a_bo (b_var (pv 0)) (a_nil))))) (b_var (pv 1)) (nomark _))))) (s_one (s_ret (v_sh (v_bl)))) (s_nil)) (s_cons (s_lock (i := 0) (s_for hp rfl (i_anyN rfl (pv 0)) (pg_name (i := 3) sc.nd rfl (by first | exact Or.inl rfl | exact Or.inr rfl)) (tg_name 3) (s_cons (s_if (PW.pt (w_or (t_not (t_tru rfl (v_bo (v_isi .list rfl rfl T.z_isinstance (pe_bltn (v := .ty "list") rfl T.z_list (by decide +kernel) rfl) (b_var (pv 3)))))) (w_or1 (t_cmp (o_ne rfl hr.units) s_ne (v_bo (v_frz (v_callB call_len s_len rfl T.z_len PySem.boot_len (a_bo (b_var (pv 3)) (a_nil))))) (b_var (pv 2)) (nomark _))))) (s_one (s_ret (v_sh (v_bl)))) (s_nil)) (s_one (s_lock (i := 3) (s_for hp rfl (i_anyN rfl (pv 3)) (pg_name (i := 4) sc.nd rfl (by first | exact Or.inl rfl | exact Or.inr rfl)) (tg_name 4) (s_one (s_if (PW.pt (w_or (t_not (t_tru rfl (v_bo (v_frz (v_call K_law_whole rfl (hr.mono (by decide)) tk rfl (a_bo (b_var (pv 4)) (a_nil))))))) (w_or (t_cmp (o_ltA rfl hr.units) s_ltA (b_var (pv 4)) (v_bo (v_int)) (nomark _)) (w_or1 (t_cmp o_ge s_cm (b_var (pv 4)) (b_var (pv 1)) (nomark _)))))) (s_one (s_ret (v_sh (v_bl)))) (s_nil))))))))) (s_one (s_ret (v_sh (v_bl)))))
theorem ok_law_is_table (T : Txt κ mg) (K_law_whole : VFn P w κ mg base "_law_whole" 1 [true] g_law_whole) : VFn P w κ mg base "_law_is_table" 2 [true, true, true] g_law_is_table := by
  obtain ⟨f, fd, F, hm⟩ := T.d_law_is_table
  exact ⟨f, fd, ["_law_found", "_law_size", "_law_many"], hm, F.kp, fn_law_is_table F T K_law_whole, F.binds (ps := ["_law_found", "_law_size", "_law_many"]) fun _ _ _ _ _ _ us hl => match us, hl with | [_, _, _], _ => rfl⟩
abbrev s_law : Stmt := topS 21
theorem sc_law : FnScope ["_law_script", "_law_first", "_law_letters_here", "_law_size", "_law_table", "_law_handed", "_law_world", "_law_cell", "_law_one", "_law_other", "_law_told", "_law_row"] ["_law_script"] (defScope s_law) := ⟨rfl, rfl, rfl, by decide +kernel, rfl, by decide +kernel, by decide +kernel⟩
theorem fn_law {f : Addr} {fd : FuncData} (F : Fun κ.K "law" "law" s_law f fd) (T : Txt κ mg) (K_law_cell_at : VFn P w κ mg base "_law_cell_at" 1 [true, true] g_law_cell_at) (K_law_letters : VFn P w κ mg base "_law_letters" 1 [true, true] g_law_letters) (K_law_rows : VFn P w κ mg base "_law_rows" 2 [true, true, true] g_law_rows) (N_World : VMk P w κ mg base "World" 0 2 [false, true] g_World_init) (M_rooms : VMs P w κ mg base "rooms" 1 [] gs_rooms) (K_law_whole : VFn P w κ mg base "_law_whole" 1 [true] g_law_whole) (K_law_word : VFn P w κ mg base "_law_word" 1 [true, true, true] g_law_word) (K_law_leads : VFn P w κ mg base "_law_leads" 2 [false, true, true, true, true] g_law_leads) (M_table_told : VMs P w κ mg base "table_told" 1 [] gs_table_told) (K_law_is_table : VFn P w κ mg base "_law_is_table" 2 [true, true, true] g_law_is_table) (M_led : VMs P w κ mg base "led" 1 [false, true] gs_led) : FnOk P w κ.K mg base (L2.CX P w) 4 f fd ["_law_script"] (spV κ [true] g_law) := by
  have sc := sc_law
  refine F.okX sc (fun vs H Q E h => spV_len h) fun cdv A outer s H vs Q E hr h => ⟨tS κ (fun c d _ H' => E c d H') b_law, ?_, v_end (k := 11) rfl h⟩
  have tk : Takes (cxOf (L2.CX P w) P w κ.K mg base ["_law_script", "_law_first", "_law_letters_here", "_law_size", "_law_table", "_law_handed", "_law_world", "_law_cell", "_law_one", "_law_other", "_law_told", "_law_row"] "law" (defScope s_law) f cdv A outer s H E) (fun c d _ H' => E c d H') := takes_of rfl rfl rfl rfl
  have hp := passes_of (X := cxOf (L2.CX P w) P w κ.K mg base ["_law_script", "_law_first", "_law_letters_here", "_law_size", "_law_table", "_law_handed", "_law_world", "_law_cell", "_law_one", "_law_other", "_law_told", "_law_row"] "law" (defScope s_law) f cdv A outer s H E) rfl
  exact s_cons (s_asg (i := 1) sc.nd rfl (by first | exact Or.inl rfl | exact Or.inr rfl) (v_call K_law_cell_at rfl (hr.mono (by decide)) tk rfl (a_bo (b_var (pv 0)) (a_bo (v_bo (v_int)) (a_nil))))) (s_cons (s_asg (i := 2) sc.nd rfl (by first | exact Or.inl rfl | exact Or.inr rfl) (v_call K_law_letters rfl (hr.mono (by decide)) tk rfl (a_bo (v_bo (v_frz (v_op op_fdivW s_div (b_var (pv 1)) (v_bo (v_int))))) (a_bo (v_bo (v_frz (v_op o_add s_add (v_bo (v_int)) (v_bo (v_frz (v_op op_mod s_mod (b_var (pv 1)) (v_bo (v_int)))))))) (a_nil))))) (s_cons (s_asg (i := 3) sc.nd rfl (by first | exact Or.inl rfl | exact Or.inr rfl) (v_op o_add s_add (v_bo (v_int)) (v_bo (v_frz (v_op op_mod s_mod (v_bo (v_frz (v_op op_fdivW s_div (b_var (pv 1)) (v_bo (v_int))))) (v_bo (v_int))))))) (s_cons (s_asg (i := 4) sc.nd rfl (by first | exact Or.inl rfl | exact Or.inr rfl) (v_call K_law_rows rfl (hr.mono (by decide)) tk rfl (a_bo (b_var (pv 0)) (a_bo (b_var (pv 3)) (a_bo (v_bo (v_frz (v_callB call_len s_len rfl T.z_len PySem.boot_len (a_bo (b_var (pv 2)) (a_nil))))) (a_nil)))))) (s_cons (s_lcLO (i := 5) (j := 4) (own := [("_law_row", 11)]) (vs := [11]) rfl sc.nd rfl rfl rfl (sw_true rfl rfl rfl (by decide +kernel)) (i_anyN rfl (pv 4)) (blkOk_by (own := [("_law_row", 11)]) (N := ["_law_script", "_law_first", "_law_letters_here", "_law_size", "_law_table", "_law_handed", "_law_world", "_law_cell", "_law_one", "_law_other", "_law_told", "_law_row"]) (sc := defScope s_law) (by decide +kernel)) (fun _ _ _ _ _ => pg_name (i := 11) sc.nd rfl (by first | exact Or.inl rfl | exact Or.inr rfl)) (to_name 11 rfl) (fun _ _ _ _ _ => pts_yes) (fun _ _ _ _ _ => v_callTy call_list_of s_list rfl T.z_list (by decide +kernel) (a_bo (b_var (pv 11)) (a_nil)))) (s_cons (s_asg (i := 6) sc.nd rfl (by first | exact Or.inl rfl | exact Or.inr rfl) (v_lockQ (i := 5) (v_sh (v_frz (v_make (ms := [false, true]) N_World rfl (hr.mono (by decide)) tk rfl (a_sh (v_var (pv 2)) (a_bo (b_var (pv 5)) (a_nil)))))))) (s_cons (s_if (PW.pt (w_or (t_tmp (i := 5) (t_cmp (o_ne rfl hr.units) s_ne (b_var (pv 5)) (b_var (pv 4)) (nomark _))) (w_or (t_not (t_tru rfl (v_bo (v_frz (v_call K_law_whole rfl (hr.mono (by decide)) tk rfl (a_bo (v_bo (v_frz (v_meth0 M_rooms rfl (hr.mono (by decide)) tk (v_var (pv 6))))) (a_nil))))))) (w_or (t_cmp (o_ne rfl hr.units) s_ne (v_bo (v_frz (v_meth0 M_rooms rfl (hr.mono (by decide)) tk (v_var (pv 6))))) (b_var (pv 3)) (nomark _)) (w_or1 (t_cmp (o_ne rfl hr.units) s_ne (v_bo (v_fld T.fld_letters rfl (v_var (pv 6)))) (b_var (pv 2)) (nomark _))))))) (s_one (s_ret (v_sh (v_bl)))) (s_nil)) (s_cons (s_asg (i := 7) sc.nd rfl (by first | exact Or.inl rfl | exact Or.inr rfl) (v_call K_law_cell_at rfl (hr.mono (by decide)) tk rfl (a_bo (b_var (pv 0)) (a_bo (v_bo (v_int)) (a_nil))))) (s_cons (s_asg (i := 8) sc.nd rfl (by first | exact Or.inl rfl | exact Or.inr rfl) (v_call K_law_word rfl (hr.mono (by decide)) tk rfl (a_bo (b_var (pv 2)) (a_bo (v_bo (v_frz (v_op op_mod s_mod (v_bo (v_frz (v_op o_mul s_mul (b_var (pv 7)) (v_bo (v_frz (v_op op_pow s_pow (v_bo (v_int)) (v_bo (v_int)))))))) (v_bo (v_frz (v_op op_pow s_pow (v_bo (v_int)) (v_bo (v_int)))))))) (a_bo (v_bo (v_frz (v_op op_mod s_mod (b_var (pv 7)) (v_bo (v_int))))) (a_nil)))))) (s_cons (s_asg (i := 7) sc.nd rfl (by first | exact Or.inl rfl | exact Or.inr rfl) (v_call K_law_cell_at rfl (hr.mono (by decide)) tk rfl (a_bo (b_var (pv 0)) (a_bo (v_bo (v_int)) (a_nil))))) (s_cons (s_asg (i := 9) sc.nd rfl (by first | exact Or.inl rfl | exact Or.inr rfl) (v_call K_law_word rfl (hr.mono (by decide)) tk rfl (a_bo (b_var (pv 2)) (a_bo (v_bo (v_frz (v_op op_mod s_mod (v_bo (v_frz (v_op o_mul s_mul (b_var (pv 7)) (v_bo (v_frz (v_op op_pow s_pow (v_bo (v_int)) (v_bo (v_int)))))))) (v_bo (v_frz (v_op op_pow s_pow (v_bo (v_int)) (v_bo (v_int)))))))) (a_bo (v_bo (v_frz (v_op op_mod s_mod (b_var (pv 7)) (v_bo (v_int))))) (a_nil)))))) (s_cons (s_if (t_not (t_tru rfl (v_bo (v_frz (v_call K_law_leads rfl (hr.mono (by decide)) tk rfl (a_sh (v_var (pv 6)) (a_bo (b_var (pv 4)) (a_bo (b_var (pv 2)) (a_bo (b_var (pv 8)) (a_bo (b_var (pv 9)) (a_nil))))))))))) (s_one (s_ret (v_sh (v_bl)))) (s_nil)) (s_cons (s_itS (i := 5) (v_itm (i := 5) rfl (pv 5) (v_bo (v_int)) (fun _ _ => rfl)) (v_bo (v_int)) (v_frz (v_op op_mod s_mod (v_bo (v_frz (v_op o_add s_add (v_bo (v_ix rfl (b_itm (v_itm (i := 5) rfl (pv 5) (v_bo (v_int)) (fun _ _ => rfl))) (v_bo (v_int)) (fun _ _ => rfl))) (v_bo (v_int))))) (b_var (pv 3)))) (pg_sub (v_itm (i := 5) rfl (pv 5) (v_bo (v_int)) (fun _ _ => rfl)) (v_bo (v_int)) set_list)) (s_cons (s_appQ (i := 5) rfl (pv 5) (im (v_lst (ms := [false]) rfl (a_sh (v_int) (a_nil))))) (s_cons (s_asg (i := 10) sc.nd rfl (by first | exact Or.inl rfl | exact Or.inr rfl) (v_meth0 M_table_told rfl (hr.mono (by decide)) tk (v_var (pv 6)))) (s_cons (s_if (PW.pt (w_or (t_not (t_tmp (i := 10) (t_tru rfl (v_bo (v_frz (v_call K_law_is_table rfl (hr.mono (by decide)) tk rfl (a_bo (b_var (pv 10)) (a_bo (b_var (pv 3)) (a_bo (v_bo (v_frz (v_callB call_len s_len rfl T.z_len PySem.boot_len (a_bo (b_var (pv 2)) (a_nil))))) (a_nil)))))))))) (w_or1 (t_tmp (i := 10) (t_cmp (o_ne rfl hr.units) s_ne (b_var (pv 10)) (b_var (pv 4)) (nomark _)))))) (s_one (s_ret (v_sh (v_bl)))) (s_nil)) (s_cons (s_itS (i := 10) (v_itm (i := 10) rfl (pv 10) (v_bo (v_int)) (fun _ _ => rfl)) (v_bo (v_int)) (v_frz (v_op op_mod s_mod (v_bo (v_frz (v_op o_add s_add (v_bo (v_ix rfl (b_itm (v_itm (i := 10) rfl (pv 10) (v_bo (v_int)) (fun _ _ => rfl))) (v_bo (v_int)) (fun _ _ => rfl))) (v_bo (v_int))))) (b_var (pv 3)))) (pg_sub (v_itm (i := 10) rfl (pv 10) (v_bo (v_int)) (fun _ _ => rfl)) (v_bo (v_int)) set_list)) (s_cons (s_appQ (i := 10) rfl (pv 10) (im (v_lst (ms := [false]) rfl (a_sh (v_int) (a_nil))))) (s_cons (s_if (PW.pt (w_or (t_cmp (o_ne rfl hr.units) s_ne (v_bo (v_frz (v_meth0 M_table_told rfl (hr.mono (by decide)) tk (v_var (pv 6))))) (b_var (pv 4)) (nomark _)) (w_or1 (t_not (t_tru rfl (v_bo (v_frz (v_call K_law_leads rfl (hr.mono (by decide)) tk rfl (a_sh (v_var (pv 6)) (a_bo (b_var (pv 4)) (a_bo (b_var (pv 2)) (a_bo (b_var (pv 9)) (a_bo (b_var (pv 8)) (a_nil)))))))))))))) (s_one (s_ret (v_sh (v_bl)))) (s_nil)) (s_one (s_ret (v_sh (v_cmp (o_eq rfl hr.units) s_eq (v_bo (v_frz (v_meth (ms := [false, true]) M_led rfl (hr.mono (by decide)) tk (v_frz (v_sh (v_frz (v_make (ms := [false, true]) N_World rfl (hr.mono (by decide)) tk rfl (a_sh (v_var (pv 2)) (a_bo (v_bo (v_frz (v_meth0 M_table_told rfl (hr.mono (by decide)) tk (v_var (pv 6))))) (a_nil))))))) (a_sh (v_frz (v_op op_sub s_sub (b_var (pv 3)) (v_bo (v_int)))) (a_bo (b_var (pv 8)) (a_nil)))))) (v_bo (v_frz (v_meth (ms := [false, true]) M_led rfl (hr.mono (by decide)) tk (v_var (pv 6)) (a_sh (v_frz (v_op op_sub s_sub (b_var (pv 3)) (v_bo (v_int)))) (a_bo (b_var (pv 8)) (a_nil)))))) (nomark _)))))))))))))))))))))))
end
end Lw


set_option Elab.async false
set_option linter.all false
set_option maxRecDepth 100000
set_option maxHeartbeats 4000000
namespace Lw
open PySem L2 Vs
def kx (K : PySem.W.Frag) (C_World C_LetterError C_NoLetters C_NoWorld : Addr) : Kx := ⟨K, fun i => match i with | 0 => C_World | _ => 0, fun i => match i with | 0 => ["letters", "table"] | _ => [], fun i => match i with | 0 => C_LetterError | 1 => C_NoLetters | 2 => C_NoWorld | _ => 0, xf, []⟩
theorem all_mk {l : PySem.W.OpenLaw} {w : World} {K : PySem.W.Frag} {h : Heap} {mg : Str → Option Value} {fa : Addr} (X : K.In h) (G : h.Ns mainGlobals mg) (hfa : mg "law" = some (.ref fa))
    {C_LetterError : Addr}
    {C_NoLetters : Addr}
    {C_NoWorld : Addr}
    (xg_LetterError : PySem.W.nsIn K mainGlobals "LetterError" = some (some (.ref C_LetterError)))
    (xg_NoLetters : PySem.W.nsIn K mainGlobals "NoLetters" = some (some (.ref C_NoLetters)))
    (xg_NoWorld : PySem.W.nsIn K mainGlobals "NoWorld" = some (some (.ref C_NoWorld)))
    (xe_NoLetters : PySem.W.excIn K C_NoLetters veB "ValueError.__new__" = true)
    (kp_NoLetters : PySem.W.keepIn K (.ref C_NoLetters) = true)
    (sb_NoLetters : PySem.W.subIn K (.ref C_NoLetters) (.type "BaseException") = some true)
    (ty_NoLetters : PySem.W.typeIn K (.ref C_NoLetters) = some (.type "type"))
    (xe_NoWorld : PySem.W.excIn K C_NoWorld veB "ValueError.__new__" = true)
    (kp_NoWorld : PySem.W.keepIn K (.ref C_NoWorld) = true)
    (sb_NoWorld : PySem.W.subIn K (.ref C_NoWorld) (.type "BaseException") = some true)
    (ty_NoWorld : PySem.W.typeIn K (.ref C_NoWorld) = some (.type "type"))
    {f1 : Addr} {od1 an1 : Option Addr} {sl1 : Array (Option Value)} {oc1 kV1 dc1 pm1 cd1 ct1 : Value}
    {f2 : Addr} {od2 an2 : Option Addr} {sl2 : Array (Option Value)} {oc2 kV2 dc2 pm2 cd2 ct2 : Value}
    {f3 : Addr} {od3 an3 : Option Addr} {sl3 : Array (Option Value)} {oc3 kV3 dc3 pm3 cd3 ct3 : Value}
    {f4 : Addr} {od4 an4 : Option Addr} {sl4 : Array (Option Value)} {oc4 kV4 dc4 pm4 cd4 ct4 : Value}
    {f5 : Addr} {od5 an5 : Option Addr} {sl5 : Array (Option Value)} {oc5 kV5 dc5 pm5 cd5 ct5 : Value}
    {f6 : Addr} {od6 an6 : Option Addr} {sl6 : Array (Option Value)} {oc6 kV6 dc6 pm6 cd6 ct6 : Value}
    {f7 : Addr} {od7 an7 : Option Addr} {sl7 : Array (Option Value)} {oc7 kV7 dc7 pm7 cd7 ct7 : Value}
    {f8 : Addr} {od8 an8 : Option Addr} {sl8 : Array (Option Value)} {oc8 kV8 dc8 pm8 cd8 ct8 : Value}
    {f9 : Addr} {od9 an9 : Option Addr} {sl9 : Array (Option Value)} {oc9 kV9 dc9 pm9 cd9 ct9 : Value}
    {f10 : Addr} {od10 an10 : Option Addr} {sl10 : Array (Option Value)} {oc10 kV10 dc10 pm10 cd10 ct10 : Value}
    {f11 : Addr} {od11 an11 : Option Addr} {sl11 : Array (Option Value)} {oc11 kV11 dc11 pm11 cd11 ct11 : Value}
    {f12 : Addr} {od12 an12 : Option Addr} {sl12 : Array (Option Value)} {oc12 kV12 dc12 pm12 cd12 ct12 : Value}
    {f13 : Addr} {od13 an13 : Option Addr} {sl13 : Array (Option Value)} {oc13 kV13 dc13 pm13 cd13 ct13 : Value}
    {f14 : Addr} {od14 an14 : Option Addr} {sl14 : Array (Option Value)} {oc14 kV14 dc14 pm14 cd14 ct14 : Value}
    {f15 : Addr} {od15 an15 : Option Addr} {sl15 : Array (Option Value)} {oc15 kV15 dc15 pm15 cd15 ct15 : Value}
    {C_World : Addr}
    (cg_World : PySem.W.nsIn K mainGlobals "World" = some (some (.ref C_World)))
    (pg_World : PySem.W.plainGet K C_World Str.empty = true)
    (hd_World : PySem.W.hasDictIn K C_World = true)
    (po_World : PySem.W.plainOver K C_World = true)
    (sa_World : PySem.W.findIn K (.ref C_World) "__setattr__" = some (some (.builtin "object.__setattr__")))
    (na_World_letters : PySem.W.findIn K (.ref C_World) "letters" = some none)
    (na_World_table : PySem.W.findIn K (.ref C_World) "table" = some none)
    (mt_World_led : PySem.W.findIn K (.ref C_World) "led" = some (some (.ref f10)))
    (if10 : PySem.W.isFn K (.ref f10) = true)
    (l10 : K.lookup f10 = some ⟨oc10, od10, .func (PySem.W.fnOf "led" "World.led" (defArgs (inClass (topS 11) 3)) (defBody (inClass (topS 11) 3)) (defScope (inClass (topS 11) 3)) .none kV10 dc10 pm10 an10 cd10 ct10), sl10⟩)
    (c10 : PySem.W.codeIn K cd10 "World.led" = true)
    (k10 : PySem.W.keepIn K (.ref f10) = true)
    (mt_World_rooms : PySem.W.findIn K (.ref C_World) "rooms" = some (some (.ref f8)))
    (if8 : PySem.W.isFn K (.ref f8) = true)
    (l8 : K.lookup f8 = some ⟨oc8, od8, .func (PySem.W.fnOf "rooms" "World.rooms" (defArgs (inClass (topS 11) 1)) (defBody (inClass (topS 11) 1)) (defScope (inClass (topS 11) 1)) .none kV8 dc8 pm8 an8 cd8 ct8), sl8⟩)
    (c8 : PySem.W.codeIn K cd8 "World.rooms" = true)
    (k8 : PySem.W.keepIn K (.ref f8) = true)
    (mt_World_table_told : PySem.W.findIn K (.ref C_World) "table_told" = some (some (.ref f13)))
    (if13 : PySem.W.isFn K (.ref f13) = true)
    (l13 : K.lookup f13 = some ⟨oc13, od13, .func (PySem.W.fnOf "table_told" "World.table_told" (defArgs (inClass (topS 11) 2)) (defBody (inClass (topS 11) 2)) (defScope (inClass (topS 11) 2)) .none kV13 dc13 pm13 an13 cd13 ct13), sl13⟩)
    (c13 : PySem.W.codeIn K cd13 "World.table_told" = true)
    (k13 : PySem.W.keepIn K (.ref f13) = true)
    (mt_World___init__ : PySem.W.findIn K (.ref C_World) "__init__" = some (some (.ref f6)))
    (if6 : PySem.W.isFn K (.ref f6) = true)
    (l6 : K.lookup f6 = some ⟨oc6, od6, .func (PySem.W.fnOf "__init__" "World.__init__" (defArgs (inClass (topS 11) 0)) (defBody (inClass (topS 11) 0)) (defScope (inClass (topS 11) 0)) .none kV6 dc6 pm6 an6 cd6 ct6), sl6⟩)
    (c6 : PySem.W.codeIn K cd6 "World.__init__" = true)
    (k6 : PySem.W.keepIn K (.ref f6) = true)
    (mk_World : PySem.W.makesIn K C_World = true)
    (kc_World : PySem.W.keepIn K (.ref C_World) = true)
    (a1 : PySem.W.nsIn K mainGlobals "_law_cell_at" = some (some (.ref f1)))
    (l1 : K.lookup f1 = some ⟨oc1, od1, .func (PySem.W.fnOf "_law_cell_at" "_law_cell_at" (defArgs (topS 13)) (defBody (topS 13)) (defScope (topS 13)) .none kV1 dc1 pm1 an1 cd1 ct1), sl1⟩)
    (c1 : PySem.W.codeIn K cd1 "_law_cell_at" = true)
    (k1 : PySem.W.keepIn K (.ref f1) = true)
    (a2 : PySem.W.nsIn K mainGlobals "_law_letters" = some (some (.ref f2)))
    (l2 : K.lookup f2 = some ⟨oc2, od2, .func (PySem.W.fnOf "_law_letters" "_law_letters" (defArgs (topS 14)) (defBody (topS 14)) (defScope (topS 14)) .none kV2 dc2 pm2 an2 cd2 ct2), sl2⟩)
    (c2 : PySem.W.codeIn K cd2 "_law_letters" = true)
    (k2 : PySem.W.keepIn K (.ref f2) = true)
    (a3 : PySem.W.nsIn K mainGlobals "_law_rows" = some (some (.ref f3)))
    (l3 : K.lookup f3 = some ⟨oc3, od3, .func (PySem.W.fnOf "_law_rows" "_law_rows" (defArgs (topS 17)) (defBody (topS 17)) (defScope (topS 17)) .none kV3 dc3 pm3 an3 cd3 ct3), sl3⟩)
    (c3 : PySem.W.codeIn K cd3 "_law_rows" = true)
    (k3 : PySem.W.keepIn K (.ref f3) = true)
    (a4 : PySem.W.nsIn K mainGlobals "letters_of" = some (some (.ref f4)))
    (l4 : K.lookup f4 = some ⟨oc4, od4, .func (PySem.W.fnOf "letters_of" "letters_of" (defArgs (topS 7)) (defBody (topS 7)) (defScope (topS 7)) .none kV4 dc4 pm4 an4 cd4 ct4), sl4⟩)
    (c4 : PySem.W.codeIn K cd4 "letters_of" = true)
    (k4 : PySem.W.keepIn K (.ref f4) = true)
    (a5 : PySem.W.nsIn K mainGlobals "is_table" = some (some (.ref f5)))
    (l5 : K.lookup f5 = some ⟨oc5, od5, .func (PySem.W.fnOf "is_table" "is_table" (defArgs (topS 10)) (defBody (topS 10)) (defScope (topS 10)) .none kV5 dc5 pm5 an5 cd5 ct5), sl5⟩)
    (c5 : PySem.W.codeIn K cd5 "is_table" = true)
    (k5 : PySem.W.keepIn K (.ref f5) = true)
    (a7 : PySem.W.nsIn K mainGlobals "_law_whole" = some (some (.ref f7)))
    (l7 : K.lookup f7 = some ⟨oc7, od7, .func (PySem.W.fnOf "_law_whole" "_law_whole" (defArgs (topS 16)) (defBody (topS 16)) (defScope (topS 16)) .none kV7 dc7 pm7 an7 cd7 ct7), sl7⟩)
    (c7 : PySem.W.codeIn K cd7 "_law_whole" = true)
    (k7 : PySem.W.keepIn K (.ref f7) = true)
    (a9 : PySem.W.nsIn K mainGlobals "_law_word" = some (some (.ref f9)))
    (l9 : K.lookup f9 = some ⟨oc9, od9, .func (PySem.W.fnOf "_law_word" "_law_word" (defArgs (topS 15)) (defBody (topS 15)) (defScope (topS 15)) .none kV9 dc9 pm9 an9 cd9 ct9), sl9⟩)
    (c9 : PySem.W.codeIn K cd9 "_law_word" = true)
    (k9 : PySem.W.keepIn K (.ref f9) = true)
    (a11 : PySem.W.nsIn K mainGlobals "_law_led" = some (some (.ref f11)))
    (l11 : K.lookup f11 = some ⟨oc11, od11, .func (PySem.W.fnOf "_law_led" "_law_led" (defArgs (topS 18)) (defBody (topS 18)) (defScope (topS 18)) .none kV11 dc11 pm11 an11 cd11 ct11), sl11⟩)
    (c11 : PySem.W.codeIn K cd11 "_law_led" = true)
    (k11 : PySem.W.keepIn K (.ref f11) = true)
    (a12 : PySem.W.nsIn K mainGlobals "_law_leads" = some (some (.ref f12)))
    (l12 : K.lookup f12 = some ⟨oc12, od12, .func (PySem.W.fnOf "_law_leads" "_law_leads" (defArgs (topS 20)) (defBody (topS 20)) (defScope (topS 20)) .none kV12 dc12 pm12 an12 cd12 ct12), sl12⟩)
    (c12 : PySem.W.codeIn K cd12 "_law_leads" = true)
    (k12 : PySem.W.keepIn K (.ref f12) = true)
    (a14 : PySem.W.nsIn K mainGlobals "_law_is_table" = some (some (.ref f14)))
    (l14 : K.lookup f14 = some ⟨oc14, od14, .func (PySem.W.fnOf "_law_is_table" "_law_is_table" (defArgs (topS 19)) (defBody (topS 19)) (defScope (topS 19)) .none kV14 dc14 pm14 an14 cd14 ct14), sl14⟩)
    (c14 : PySem.W.codeIn K cd14 "_law_is_table" = true)
    (k14 : PySem.W.keepIn K (.ref f14) = true)
    (a15 : PySem.W.nsIn K mainGlobals "law" = some (some (.ref f15)))
    (l15 : K.lookup f15 = some ⟨oc15, od15, .func (PySem.W.fnOf "law" "law" (defArgs (topS 21)) (defBody (topS 21)) (defScope (topS 21)) .none kV15 dc15 pm15 an15 cd15 ct15), sl15⟩)
    (c15 : PySem.W.codeIn K cd15 "law" = true)
    (k15 : PySem.W.keepIn K (.ref f15) = true)
    (z_len : PySem.W.nsIn K mainGlobals "len" = some none)
    (z_range : PySem.W.nsIn K mainGlobals "range" = some none)
    {t_m_SMALL : Tok} (m_SMALL : PySem.W.nsIn K mainGlobals "SMALL" = some (some (.str (S c_SMALL) t_m_SMALL)))
    {t_m_MOST_ROOMS : Tok} (m_MOST_ROOMS : PySem.W.nsIn K mainGlobals "MOST_ROOMS" = some (some (.int 8 t_m_MOST_ROOMS)))
    (z_list : PySem.W.nsIn K mainGlobals "list" = some none)
    (z_isinstance : PySem.W.nsIn K mainGlobals "isinstance" = some none)
    (z_bool : PySem.W.nsIn K mainGlobals "bool" = some none)
    (z_int : PySem.W.nsIn K mainGlobals "int" = some none) :
    ∃ fd : FuncData, (∀ (s : Shared) (v : Value), BindsTo s fd ⟨[v], []⟩ [("_law_script", v)]) ∧ ∀ base : Heap, K.In base → base.Ns mainGlobals mg → FnOk l.prog w K mg base (L2.CX l.prog w) 4 fa fd ["_law_script"] (spLaw K) := by
  have T : Txt (kx K C_World C_LetterError C_NoLetters C_NoWorld) mg := ⟨rfl,
    PySem.W.mg_of X G xg_LetterError,
    PySem.W.mg_of X G xg_NoLetters,
    PySem.W.mg_of X G xg_NoWorld,
    xe_NoLetters,
    kp_NoLetters,
    sb_NoLetters,
    ty_NoLetters,
    xe_NoWorld,
    kp_NoWorld,
    sb_NoWorld,
    ty_NoWorld,
    ⟨fun c k e => match c, e with | 0, e => by have e : some 0 = some k := e; cases e; exact ⟨⟨pg_World, hd_World, po_World, sa_World⟩, na_World_letters, rfl, (by show (["letters", "table"] : List Str).Nodup; decide +kernel), (by show (["letters", "table"] : List Str).length < 1000; decide)⟩ | n + 1, e => by have e : (none : Option Nat) = some k := e; cases e⟩,
    ⟨fun c k e => match c, e with | 0, e => by have e : some 1 = some k := e; cases e; exact ⟨⟨pg_World, hd_World, po_World, sa_World⟩, na_World_table, rfl, (by show (["letters", "table"] : List Str).Nodup; decide +kernel), (by show (["letters", "table"] : List Str).length < 1000; decide)⟩ | n + 1, e => by have e : (none : Option Nat) = some k := e; cases e⟩,
    ⟨_, _, fun_mk (st := inClass (topS 11) 3) l10 c10 k10, ⟨pg_World, hd_World, po_World, sa_World⟩, ⟨mt_World_led, if10, k10⟩, (by show ("led" : Str) ∉ (["letters", "table"] : List Str); decide +kernel)⟩,
    ⟨_, _, fun_mk (st := inClass (topS 11) 1) l8 c8 k8, ⟨pg_World, hd_World, po_World, sa_World⟩, ⟨mt_World_rooms, if8, k8⟩, (by show ("rooms" : Str) ∉ (["letters", "table"] : List Str); decide +kernel)⟩,
    ⟨_, _, fun_mk (st := inClass (topS 11) 2) l13 c13 k13, ⟨pg_World, hd_World, po_World, sa_World⟩, ⟨mt_World_table_told, if13, k13⟩, (by show ("table_told" : Str) ∉ (["letters", "table"] : List Str); decide +kernel)⟩,
    ⟨_, _, PySem.W.mg_of X G cg_World, ⟨mk_World, mt_World___init__, if6, kc_World⟩, fun_mk (st := inClass (topS 11) 0) l6 c6 k6⟩,
    ⟨_, _, fun_mk (st := topS 13) l1 c1 k1, PySem.W.mg_of X G a1⟩,
    ⟨_, _, fun_mk (st := topS 14) l2 c2 k2, PySem.W.mg_of X G a2⟩,
    ⟨_, _, fun_mk (st := topS 17) l3 c3 k3, PySem.W.mg_of X G a3⟩,
    ⟨_, _, fun_mk (st := topS 7) l4 c4 k4, PySem.W.mg_of X G a4⟩,
    ⟨_, _, fun_mk (st := topS 10) l5 c5 k5, PySem.W.mg_of X G a5⟩,
    ⟨_, _, fun_mk (st := topS 16) l7 c7 k7, PySem.W.mg_of X G a7⟩,
    ⟨_, _, fun_mk (st := topS 15) l9 c9 k9, PySem.W.mg_of X G a9⟩,
    ⟨_, _, fun_mk (st := topS 18) l11 c11 k11, PySem.W.mg_of X G a11⟩,
    ⟨_, _, fun_mk (st := topS 20) l12 c12 k12, PySem.W.mg_of X G a12⟩,
    ⟨_, _, fun_mk (st := topS 19) l14 c14 k14, PySem.W.mg_of X G a14⟩,
    ⟨_, _, fun_mk (st := topS 21) l15 c15 k15, PySem.W.mg_of X G a15⟩,
    PySem.W.mg_none_of X G z_len,
    PySem.W.mg_none_of X G z_range,
    ⟨_, PySem.W.mg_of X G m_SMALL⟩,
    ⟨_, PySem.W.mg_of X G m_MOST_ROOMS⟩,
    PySem.W.mg_none_of X G z_list,
    PySem.W.mg_none_of X G z_isinstance,
    PySem.W.mg_none_of X G z_bool,
    PySem.W.mg_none_of X G z_int⟩
  have e := hfa.symm.trans (PySem.W.mg_of X G a15)
  cases e
  have F := fun_mk (st := topS 21) l15 c15 k15
  refine ⟨PySem.W.fnOf "law" "law" (defArgs (topS 21)) (defBody (topS 21)) (defScope (topS 21)) .none kV15 dc15 pm15 an15 cd15 ct15, fun s v => ?_, fun base hb hg => ?_⟩
  · exact .of_eq rfl
  · have K_law_cell_at : VFn l.prog w (kx K C_World C_LetterError C_NoLetters C_NoWorld) mg base "_law_cell_at" 1 [true, true] g_law_cell_at := ok_law_cell_at T
    have K_law_letters : VFn l.prog w (kx K C_World C_LetterError C_NoLetters C_NoWorld) mg base "_law_letters" 1 [true, true] g_law_letters := ok_law_letters T
    have K_law_rows : VFn l.prog w (kx K C_World C_LetterError C_NoLetters C_NoWorld) mg base "_law_rows" 2 [true, true, true] g_law_rows := ok_law_rows T K_law_cell_at
    have K_letters_of : VFn l.prog w (kx K C_World C_LetterError C_NoLetters C_NoWorld) mg base "letters_of" 1 [false] g_letters_of := ok_letters_of T
    have K_is_table : VFn l.prog w (kx K C_World C_LetterError C_NoLetters C_NoWorld) mg base "is_table" 1 [true, true] g_is_table := ok_is_table T
    have N_World : VMk l.prog w (kx K C_World C_LetterError C_NoLetters C_NoWorld) mg base "World" 0 2 [false, true] g_World_init := okN_World T K_letters_of K_is_table
    have K_law_whole : VFn l.prog w (kx K C_World C_LetterError C_NoLetters C_NoWorld) mg base "_law_whole" 1 [true] g_law_whole := ok_law_whole T
    have M_rooms : VMs l.prog w (kx K C_World C_LetterError C_NoLetters C_NoWorld) mg base "rooms" 1 [] gs_rooms := okM_rooms T
    have K_law_word : VFn l.prog w (kx K C_World C_LetterError C_NoLetters C_NoWorld) mg base "_law_word" 1 [true, true, true] g_law_word := ok_law_word T
    have M_led : VMs l.prog w (kx K C_World C_LetterError C_NoLetters C_NoWorld) mg base "led" 1 [false, true] gs_led := okM_led T
    have K_law_led : VFn l.prog w (kx K C_World C_LetterError C_NoLetters C_NoWorld) mg base "_law_led" 1 [true, true, false, true] g_law_led := ok_law_led T
    have K_law_leads : VFn l.prog w (kx K C_World C_LetterError C_NoLetters C_NoWorld) mg base "_law_leads" 2 [false, true, true, true, true] g_law_leads := ok_law_leads T M_led K_law_led K_law_whole
    have M_table_told : VMs l.prog w (kx K C_World C_LetterError C_NoLetters C_NoWorld) mg base "table_told" 1 [] gs_table_told := okM_table_told T
    have K_law_is_table : VFn l.prog w (kx K C_World C_LetterError C_NoLetters C_NoWorld) mg base "_law_is_table" 2 [true, true, true] g_law_is_table := ok_law_is_table T K_law_whole
    exact (fn_law F T K_law_cell_at K_law_letters K_law_rows N_World M_rooms K_law_whole K_law_word K_law_leads M_table_told K_law_is_table M_led).imp (law_sp (κ := (kx K C_World C_LetterError C_NoLetters C_NoWorld)) law_true)
end Lw
open PySem PySem.W PyProof.Rows
set_option maxRecDepth 100000 in
set_option maxHeartbeats 0 in
theorem PySem.Challenge.cw_letterlaw_k61_led_holds : PySem.Challenge.rw_letterlaw_k61_led.Holds := by
  w_on; o_law; k_head; (case hw => w_witness2)
  k_fill
  refine Vs.walk_law (l := PySem.Challenge.rw_letterlaw_k61_led) (x := "_law_script") (k := 4) rfl rfl ⟨rfl, by decide, by decide⟩ (fun w h Y => by first | exact PySem.W.kIn_of Y | exact PySem.W.km_in_of Y) ?F
  case F =>
    intro w mg fa h KX G hmg
    refine' Lw.all_mk KX G hmg ?xg_LetterError ?xg_NoLetters ?xg_NoWorld ?xe_NoLetters ?kp_NoLetters ?sb_NoLetters ?ty_NoLetters ?xe_NoWorld ?kp_NoWorld ?sb_NoWorld ?ty_NoWorld ?cg_World ?pg_World ?hd_World ?po_World ?sa_World ?na_World_letters ?na_World_table ?mt_World_led ?if10 ?l10 ?c10 ?k10 ?mt_World_rooms ?if8 ?l8 ?c8 ?k8 ?mt_World_table_told ?if13 ?l13 ?c13 ?k13 ?mt_World___init__ ?if6 ?l6 ?c6 ?k6 ?mk_World ?kc_World ?a1 ?l1 ?c1 ?k1 ?a2 ?l2 ?c2 ?k2 ?a3 ?l3 ?c3 ?k3 ?a4 ?l4 ?c4 ?k4 ?a5 ?l5 ?c5 ?k5 ?a7 ?l7 ?c7 ?k7 ?a9 ?l9 ?c9 ?k9 ?a11 ?l11 ?c11 ?k11 ?a12 ?l12 ?c12 ?k12 ?a14 ?l14 ?c14 ?k14 ?a15 ?l15 ?c15 ?k15 ?z_len ?z_range ?m_SMALL ?m_MOST_ROOMS ?z_list ?z_isinstance ?z_bool ?z_int
    (case xg_LetterError => k_is)
    (case xg_NoLetters => k_is)
    (case xg_NoWorld => k_is)
    (case xe_NoLetters => k_exc)
    (case kp_NoLetters => k_is)
    (case sb_NoLetters => k_is)
    (case ty_NoLetters => k_is)
    (case xe_NoWorld => k_exc)
    (case kp_NoWorld => k_is)
    (case sb_NoWorld => k_is)
    (case ty_NoWorld => k_is)
    (case cg_World => k_is)
    (case pg_World => k_is)
    (case hd_World => k_is)
    (case po_World => k_is)
    (case sa_World => k_is)
    (case na_World_letters => k_is)
    (case na_World_table => k_is)
    (case mt_World_led => k_is)
    (case if10 => k_is)
    (case l10 => k_is)
    (case c10 => k_is)
    (case k10 => k_is)
    (case mt_World_rooms => k_is)
    (case if8 => k_is)
    (case l8 => k_is)
    (case c8 => k_is)
    (case k8 => k_is)
    (case mt_World_table_told => k_is)
    (case if13 => k_is)
    (case l13 => k_is)
    (case c13 => k_is)
    (case k13 => k_is)
    (case mt_World___init__ => k_is)
    (case if6 => k_is)
    (case l6 => k_is)
    (case c6 => k_is)
    (case k6 => k_is)
    (case mk_World => k_is)
    (case kc_World => k_is)
    (case a1 => k_is)
    (case l1 => k_is)
    (case c1 => k_is)
    (case k1 => k_is)
    (case a2 => k_is)
    (case l2 => k_is)
    (case c2 => k_is)
    (case k2 => k_is)
    (case a3 => k_is)
    (case l3 => k_is)
    (case c3 => k_is)
    (case k3 => k_is)
    (case a4 => k_is)
    (case l4 => k_is)
    (case c4 => k_is)
    (case k4 => k_is)
    (case a5 => k_is)
    (case l5 => k_is)
    (case c5 => k_is)
    (case k5 => k_is)
    (case a7 => k_is)
    (case l7 => k_is)
    (case c7 => k_is)
    (case k7 => k_is)
    (case a9 => k_is)
    (case l9 => k_is)
    (case c9 => k_is)
    (case k9 => k_is)
    (case a11 => k_is)
    (case l11 => k_is)
    (case c11 => k_is)
    (case k11 => k_is)
    (case a12 => k_is)
    (case l12 => k_is)
    (case c12 => k_is)
    (case k12 => k_is)
    (case a14 => k_is)
    (case l14 => k_is)
    (case c14 => k_is)
    (case k14 => k_is)
    (case a15 => k_is)
    (case l15 => k_is)
    (case c15 => k_is)
    (case k15 => k_is)
    (case z_len => k_is)
    (case z_range => k_is)
    (case m_SMALL => k_is)
    (case m_MOST_ROOMS => k_is)
    (case z_list => k_is)
    (case z_isinstance => k_is)
    (case z_bool => k_is)
    (case z_int => k_is)
