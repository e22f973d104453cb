import PyProof.Rows.All
import Wide.All
import OpenK.AllK
import Wide.FinOn
import HandS.ForMost
import HandS.ForExc
import HandS.Wide
import HandS.WideBits
import HandS.IsInst
import HandS.StrMore
import HandS.EndBits
import HandS.Lambda
import HandS.RevRange
import PyProof.EqAt
import PyProof.EqKinds
import PyProof.TupleCall
import Open.SpecLaws
import KE.OsGo
import HandS.ForSpec
import HandS.ExcField
import HandS.TryMany
import HandS.TryOnly
import HandS.Defaults
import HandS.CallSlots
import KE.KExcIs
import HandS.Conv
import KE.DataCmp
import HandS.Deep
import HandS.ClsMeth
import HandS.More
import HandS.SortInts
import HandS.Zip
import HandS.Rev
import HandS.RevTup
import HandS.MapJoin
import PyProof.ListRange
import HandS.Codes
import HandS.HotCalls
import HandS.SuiteRaise
import HandS.SortKw
import KE.SortKeyHeap
import HandS.EndTab
import KE.DataMinMax
import HandS.SetKeys
import PySem.Challenge.RW_letterlaw_k91_rows

set_option Elab.async false
set_option linter.all false
set_option maxRecDepth 100000
set_option maxHeartbeats 2000000
/-! Vs: a reading of a def's text as a plain function over values (lists and tuples as trees), proved over the hand layer once for each construct. -/
namespace Vs
open PySem L2

/-- an error of the program's own: the number of its class, the value of its one attribute -/
structure Ex where
  c : Nat
  a : Option Int
/-- where a caught error stands -/
structure Xo where
  a : Addr
  cls : Value
  d : Option Addr
/-- values as trees -/
inductive D where
  | non | bl (b : Bool) | int (i : Int) | str (w : List Nat) | lst (l : List D) | tup (l : List D) | ob (c : Nat) (l : List D) | scr (ns : List Int) | xn (o : Xo) (x : Ex)
/-- a field of an own object: shared, or a list of its own -/
inductive Fd where
  | sh (d : D) | ow (l : List D)
def Fd.d : Fd → D
  | .sh d => d
  | .ow l => .lst l
/-- own things: a list, an object, a dict -/
inductive O where
  | ls (l : List D) | ob (c : Nat) (fs : List Fd) | dc (kvs : List (D × D)) | sq (t : Bool) (fs : List Fd)
/-- a list or a tuple -/
def sqD : Bool → List D → D
  | true, l => .tup l
  | false, l => .lst l
/-- .. given away -/
def O.d : O → Option D
  | .ls l => some (.lst l)
  | .ob c fs => some (.ob c (fs.map Fd.d))
  | .dc _ => none
  | .sq t fs => some (sqD t (fs.map Fd.d))

def S (w : List Nat) : Str := ⟨w.toArray⟩
theorem S_list (x : Str) : S x.cps.toList = x := by cases x; rfl
theorem S_cps (w : List Nat) : (S w).cps.toList = w := rfl
theorem S_len (w : List Nat) : (S w).length = w.length := by simp [S, Str.length]
theorem S_inj {a b : List Nat} (h : S a = S b) : a = b := by
  have := congrArg (fun z : Str => z.cps.toList) h
  simpa [S_cps] using this

/-- the written part, and what classes are made of -/
structure Kx where
  K : PySem.W.Frag
  cl : Nat → Addr
  fl : Nat → List Str
  xc : Nat → Addr
  xf : Nat → Option Str
  tb : List (Addr × Str)

/-- no code table -/
def nt (o : HO) : Prop := ∀ ps, o ≠ .tbl ps
/-- .. nor a thing told by a truth -/
def pln (o : HO) : Prop := nt o ∧ ∀ φ, o ≠ .ext φ
/-- all stays, but that tables may grow -/
def Grw (H H' : Hp) : Prop := ∀ a o, H a = some o → ∃ o', H' a = some o' ∧ (nt o → o' = o)
theorem Grw.at {H H' : Hp} (h : Grw H H') {a : Addr} {o : HO} (e : H a = some o) (n : nt o := by first | assumption | exact fun _ z => nomatch z | exact And.left (by assumption)) : H' a = some o := by
  obtain ⟨o', h1, h2⟩ := h a o e
  rw [h1, h2 n]
theorem Grw.refl (H : Hp) : Grw H H := fun _ o h => ⟨o, h, fun _ => rfl⟩
theorem Grw.trans {H H1 H2 : Hp} (x : Grw H H1) (y : Grw H1 H2) : Grw H H2 := fun a o e => by
  obtain ⟨o1, h1, n1⟩ := x a o e
  obtain ⟨o2, h2, n2⟩ := y a o1 h1
  exact ⟨o2, h2, fun n => by
    have := n1 n
    subst this
    exact n2 n⟩
theorem gr {H H' : Hp} (s : Same H H') : Grw H H' := fun a o e => ⟨o, s a o e, fun _ => rfl⟩
instance {H H' : Hp} : Coe (Same H H') (Grw H H') := ⟨gr⟩
/-- the shared part of a heap; the tables stand -/
structure Sub (κ : Kx) (G H : Hp) : Prop where
  s : Same G H
  n : ∀ a o, G a = some o → nt o
  t : LamX.Tabs κ.tb H
instance {κ : Kx} {G H : Hp} : CoeFun (Sub κ G H) fun _ => ∀ a o, G a = some o → H a = some o := ⟨fun z => z.s⟩
instance {κ : Kx} {G H : Hp} : CoeOut (Sub κ G H) (Same G H) := ⟨Sub.s⟩
/-- tables stand where tables and truths stay -/
theorem tabs_of {T : List (Addr × Str)} {H H' : Hp} (t : LamX.Tabs T H) (k : ∀ a o, H a = some o → ¬ pln o → H' a = some o) : LamX.Tabs T H' := fun p hp => by
  obtain ⟨ps, h1, h2, h3⟩ := t p hp
  refine ⟨ps, k _ _ h1 fun z => z.1 ps rfl, h2, fun pos cv hc => ?_⟩
  obtain ⟨c, e1, e2⟩ := h3 pos cv hc
  exact ⟨c, e1, k _ _ e2 fun z => z.2 _ rfl⟩
theorem Sub.kept {κ : Kx} {G H H' : Hp} (z : Sub κ G H) (k : ∀ a o, H a = some o → H' a = some o) : Sub κ G H' := ⟨fun a o e => k a o (z.s a o e), z.n, tabs_of z.t fun a o e _ => k a o e⟩
def XR (κ : Kx) (H : Hp) (x : Ex) (c : Value) (d : Option Addr) : Prop := c = .ref (κ.xc x.c) ∧ match κ.xf x.c, x.a with
  | none, _ => d = none
  | some f, some z => ∃ b, d = some b ∧ H b = some (.xd [(f, .int z)])
  | some _, none => False
mutual
inductive Rp (κ : Kx) (G : Hp) : V → D → Prop
  | non : Rp κ G .non .non
  | bl (b : Bool) : Rp κ G (.bl b) (.bl b)
  | int (i : Int) : Rp κ G (.int i) (.int i)
  | str (w : List Nat) : Rp κ G (.str (S w)) (.str w)
  | lst {a : Addr} {xs : List V} {ds : List D} : G a = some (.lst xs) → RpA κ G xs ds → Rp κ G (.ref a) (.lst ds)
  | tup {a : Addr} {xs : List V} {ds : List D} : G a = some (.tup xs) → RpA κ G xs ds → Rp κ G (.ref a) (.tup ds)
  | ob {a dx : Addr} {c : Nat} {fs : List (Str × V)} {ds : List D} : G a = some (.ins (κ.cl c) dx fs) → fs.map Prod.fst = (κ.fl c).take ds.length → RpA κ G (fs.map Prod.snd) ds → Rp κ G (.ref a) (.ob c ds)
  | scr {a : Addr} {ns : List Int} : SqL κ.K G a (ns.map V.int) → Rp κ G (.ref a) (.scr ns)
  | xn {o : Xo} {x : Ex} : XR κ G x o.cls o.d → Rp κ G (.ref o.a) (.xn o x)
inductive RpA (κ : Kx) (G : Hp) : List V → List D → Prop
  | nil : RpA κ G [] []
  | cons {v : V} {vs : List V} {d : D} {ds : List D} : Rp κ G v d → RpA κ G vs ds → RpA κ G (v :: vs) (d :: ds)
end

theorem grw_rd {H H' : Hp} {a : Addr} {u : HO} (e : Grw H H') (n : nt u) (h : Rd H a u) : Rd H' a u := by
  rcases h with h | ⟨o, h⟩
  · exact Or.inl (e.at h)
  · exact Or.inr ⟨o, e.at h⟩
theorem same_l {K : PySem.W.Frag} {H H' : Hp} {a : Addr} {xs : List V} (e : Grw H H') (h : SqL K H a xs) : SqL K H' a xs := h.imp (grw_rd e fun _ z => nomatch z) id
section
variable {κ : Kx} {G G' H H' : Hp}
theorem XR.mono (e : Same G G') {x : Ex} {c : Value} {d : Option Addr} (h : XR κ G x c d) : XR κ G' x c d := by
  refine ⟨h.1, ?_⟩
  have h2 := h.2
  split at h2
  · exact h2
  · obtain ⟨b, h3, h4⟩ := h2
    exact ⟨b, h3, e _ _ h4⟩
  · exact h2
mutual
theorem Rp.mono (e : Same G G') : ∀ {v : V} {d : D}, Rp κ G v d → Rp κ G' v d
  | _, _, .non => .non
  | _, _, .bl b => .bl b
  | _, _, .int i => .int i
  | _, _, .str w => .str w
  | _, _, .lst h t => .lst (e _ _ h) (RpA.mono e t)
  | _, _, .tup h t => .tup (e _ _ h) (RpA.mono e t)
  | _, _, .scr h => .scr (same_l e h)
  | _, _, .xn h => .xn (h.mono e)
  | _, _, .ob h1 h2 t => .ob (e _ _ h1) h2 (RpA.mono e t)
theorem RpA.mono (e : Same G G') : ∀ {vs : List V} {ds : List D}, RpA κ G vs ds → RpA κ G' vs ds
  | _, _, .nil => .nil
  | _, _, .cons h t => .cons (Rp.mono e h) (RpA.mono e t)
end
theorem RpA.length : ∀ {vs : List V} {ds : List D}, RpA κ G vs ds → vs.length = ds.length
  | _, _, .nil => rfl
  | _, _, .cons _ t => by simp [RpA.length t]
theorem RpA.get : ∀ {vs : List V} {ds : List D} {i : Nat} {v : V}, RpA κ G vs ds → vs[i]? = some v → ∃ d, ds[i]? = some d ∧ Rp κ G v d
  | _, _, _, _, .nil, e => by simp at e
  | _, _, 0, _, .cons r _, e => by simp at e; subst e; exact ⟨_, rfl, r⟩
  | _, _, i + 1, v, .cons _ t, e => by
    obtain ⟨d, h1, h2⟩ := RpA.get (i := i) (v := v) t (by simpa using e)
    exact ⟨d, by simpa using h1, h2⟩
theorem RpA.getD : ∀ {vs : List V} {ds : List D} {i : Nat} {d : D}, RpA κ G vs ds → ds[i]? = some d → ∃ v, vs[i]? = some v ∧ Rp κ G v d
  | _, _, _, _, .nil, e => by simp at e
  | _, _, 0, _, .cons r _, e => by simp at e; subst e; exact ⟨_, rfl, r⟩
  | _, _, i + 1, v, .cons _ t, e => by
    obtain ⟨d, h1, h2⟩ := RpA.getD (i := i) (d := v) t (by simpa using e)
    exact ⟨d, by simpa using h1, h2⟩
theorem RpA.append : ∀ {vs us : List V} {ds es : List D}, RpA κ G vs ds → RpA κ G us es → RpA κ G (vs ++ us) (ds ++ es)
  | _, _, _, _, .nil, s => s
  | _, _, _, _, .cons r t, s => .cons r (RpA.append t s)
theorem RpA.take : ∀ {vs : List V} {ds : List D} (n : Nat), RpA κ G vs ds → RpA κ G (vs.take n) (ds.take n)
  | _, _, 0, _ => by simpa using RpA.nil
  | _, _, _ + 1, .nil => by simpa using RpA.nil
  | _, _, n + 1, .cons r t => .cons r (RpA.take n t)
theorem RpA.drop : ∀ {vs : List V} {ds : List D} (n : Nat), RpA κ G vs ds → RpA κ G (vs.drop n) (ds.drop n)
  | _, _, 0, r => r
  | _, _, _ + 1, .nil => by simpa using RpA.nil
  | _, _, n + 1, .cons _ t => RpA.drop n t
theorem RpA.set {v : V} {d : D} (r : Rp κ G v d) : ∀ {vs : List V} {ds : List D} (n : Nat), RpA κ G vs ds → RpA κ G (vs.set n v) (ds.set n d)
  | _, _, _, .nil => .nil
  | _, _, 0, .cons _ t => .cons r t
  | _, _, n + 1, .cons q t => .cons q (RpA.set r n t)
theorem RpA.ints : ∀ ns : List Int, RpA κ G (ns.map V.int) (ns.map D.int)
  | [] => .nil
  | n :: r => .cons (.int n) (RpA.ints r)
end

/-! ### own things -/
/-- the shared part of the heap, and each slot's own addresses -/
structure Gh where
  g : Hp
  fp : Nat → List Addr
instance : Coe Gh Hp := ⟨Gh.g⟩
def Gh.up (G : Gh) (p : Addr) (o : HO) : Gh := ⟨upd G.g p o, G.fp⟩
def Gh.put (G : Gh) (i : Nat) (F : List Addr) : Gh := ⟨G.g, fun j => if j = i then F else G.fp j⟩
inductive RFs (κ : Kx) (H G : Hp) : List V → List Fd → List Addr → Prop
  | nil : RFs κ H G [] [] []
  | sh {v : V} {vs : List V} {d : D} {fs : List Fd} {F : List Addr} : Rp κ G v d → RFs κ H G vs fs F → RFs κ H G (v :: vs) (.sh d :: fs) F
  | ow {a : Addr} {xs : List V} {l : List D} {vs : List V} {fs : List Fd} {F : List Addr} : H a = some (.lst xs) → G a = none → RpA κ G xs l → a ∉ F → RFs κ H G vs fs F → RFs κ H G (.ref a :: vs) (.ow l :: fs) (a :: F)
def kD : Key → D
  | .inl i => .int i
  | .inr x => .str x.cps.toList
inductive RDc (κ : Kx) (G : Hp) : List (Key × V) → List (D × D) → Prop
  | nil : RDc κ G [] []
  | cons {k : Key} {v : V} {d : D} {r : List (Key × V)} {ds : List (D × D)} : Rp κ G v d → RDc κ G r ds → RDc κ G ((k, v) :: r) ((kD k, d) :: ds)
def sqH : Bool → List V → HO
  | true, xs => .tup xs
  | false, xs => .lst xs
inductive RO (κ : Kx) (H G : Hp) : V → O → List Addr → Prop
  | ls {a : Addr} {xs : List V} {l : List D} : H a = some (.lst xs) → G a = none → RpA κ G xs l → RO κ H G (.ref a) (.ls l) [a]
  | ob {a dx : Addr} {c : Nat} {ys : List (Str × V)} {fs : List Fd} {F : List Addr} : H a = some (.ins (κ.cl c) dx ys) → G a = none → ys.map Prod.fst = (κ.fl c).take fs.length → RFs κ H G (ys.map Prod.snd) fs F → a ∉ F → RO κ H G (.ref a) (.ob c fs) (a :: F)
  | dc {a : Addr} {kvs : List (Key × V)} {ds : List (D × D)} : H a = some (.dK kvs) → G a = none → RDc κ G kvs ds → RO κ H G (.ref a) (.dc ds) [a]
  | sq {a : Addr} {t : Bool} {xs : List V} {fs : List Fd} {F : List Addr} : H a = some (sqH t xs) → G a = none → RFs κ H G xs fs F → a ∉ F → RO κ H G (.ref a) (.sq t fs) (a :: F)
section
variable {κ : Kx} {G G' H H' : Hp} {v : V} {vs : List V} {fs : List Fd} {o : O} {F : List Addr} {a : Addr}
theorem RFs.own : ∀ {vs : List V} {fs : List Fd} {F : List Addr}, RFs κ H G vs fs F → ∀ {a : Addr}, a ∈ F → (∃ o, H a = some o) ∧ G a = none
  | _, _, _, .nil, a, h => by cases h
  | _, _, _, .sh _ t, a, h => RFs.own t h
  | _, _, _, .ow h1 h2 _ _ t, a, h => by
    rcases List.mem_cons.mp h with e | h
    · subst e; exact ⟨⟨_, h1⟩, h2⟩
    · exact RFs.own t h
theorem RO.own (r : RO κ H G v o F) (h : a ∈ F) : (∃ o, H a = some o) ∧ G a = none := by
  cases r with
  | ls h1 h2 _ =>
    have e := List.mem_singleton.mp h
    subst e
    exact ⟨⟨_, h1⟩, h2⟩
  | ob h1 h2 _ t _ =>
    rcases List.mem_cons.mp h with e | h
    · subst e; exact ⟨⟨_, h1⟩, h2⟩
    · exact t.own h
  | sq h1 h2 t _ =>
    rcases List.mem_cons.mp h with e | h
    · subst e; exact ⟨⟨_, h1⟩, h2⟩
    · exact t.own h
  | dc h1 h2 _ =>
    have e := List.mem_singleton.mp h
    subst e
    exact ⟨⟨_, h1⟩, h2⟩
theorem sqH_pln (t : Bool) (xs : List V) : pln (sqH t xs) := by
  cases t <;> exact ⟨(fun _ z => nomatch z), (fun _ z => nomatch z)⟩
theorem RFs.pl : ∀ {vs : List V} {fs : List Fd} {F : List Addr}, RFs κ H G vs fs F → ∀ {a : Addr} {u : HO}, a ∈ F → H a = some u → pln u
  | _, _, _, .nil, a, u, h, e => by cases h
  | _, _, _, .sh _ t, a, u, h, e => RFs.pl t h e
  | _, _, _, .ow h1 h2 _ _ t, a, u, h, e => by
    rcases List.mem_cons.mp h with z | h
    · subst z
      rw [h1] at e
      cases e
      exact ⟨(fun _ z => nomatch z), (fun _ z => nomatch z)⟩
    · exact RFs.pl t h e
theorem RO.pl (r : RO κ H G v o F) {u : HO} (h : a ∈ F) (e : H a = some u) : pln u := by
  cases r with
  | ls h1 h2 _ =>
    have z := List.mem_singleton.mp h
    subst z
    rw [h1] at e
    cases e
    exact ⟨(fun _ z => nomatch z), (fun _ z => nomatch z)⟩
  | ob h1 h2 _ t _ =>
    rcases List.mem_cons.mp h with z | h
    · subst z
      rw [h1] at e
      cases e
      exact ⟨(fun _ z => nomatch z), (fun _ z => nomatch z)⟩
    · exact t.pl h e
  | sq h1 h2 t _ =>
    rcases List.mem_cons.mp h with z | h
    · subst z
      rw [h1] at e
      cases e
      exact sqH_pln _ _
    · exact t.pl h e
  | dc h1 h2 _ =>
    have z := List.mem_singleton.mp h
    subst z
    rw [h1] at e
    cases e
    exact ⟨(fun _ z => nomatch z), (fun _ z => nomatch z)⟩
theorem RFs.grow (g : Same G G') : ∀ {vs : List V} {fs : List Fd} {F : List Addr}, RFs κ H G vs fs F → (∀ a o, a ∈ F → H a = some o → H' a = some o) → (∀ a, a ∈ F → G' a = none) → RFs κ H' G' vs fs F
  | _, _, _, .nil, _, _ => .nil
  | _, _, _, .sh r t, h, n => .sh (r.mono g) (RFs.grow g t h n)
  | _, _, _, .ow h1 h2 r m t, h, n => .ow (h _ _ List.mem_cons_self h1) (n _ List.mem_cons_self) (r.mono g) m (RFs.grow g t (fun a o q => h a o (List.mem_cons_of_mem _ q)) fun a q => n a (List.mem_cons_of_mem _ q))
theorem RDc.mono (g : Same G G') : ∀ {kvs : List (Key × V)} {ds : List (D × D)}, RDc κ G kvs ds → RDc κ G' kvs ds
  | _, _, .nil => .nil
  | _, _, .cons r t => .cons (r.mono g) (RDc.mono g t)
theorem RO.grow (g : Same G G') (r : RO κ H G v o F) (h : ∀ a o, a ∈ F → H a = some o → H' a = some o) (n : ∀ a, a ∈ F → G' a = none) : RO κ H' G' v o F := by
  cases r with
  | ls h1 h2 t => exact .ls (h _ _ List.mem_cons_self h1) (n _ List.mem_cons_self) (t.mono g)
  | ob h1 h2 h3 t m => exact .ob (h _ _ List.mem_cons_self h1) (n _ List.mem_cons_self) h3 (t.grow g (fun a o q => h a o (List.mem_cons_of_mem _ q)) fun a q => n a (List.mem_cons_of_mem _ q)) m
  | dc h1 h2 t => exact .dc (h _ _ List.mem_cons_self h1) (n _ List.mem_cons_self) (t.mono g)
  | sq h1 h2 t m => exact .sq (h _ _ List.mem_cons_self h1) (n _ List.mem_cons_self) (t.grow g (fun a o q => h a o (List.mem_cons_of_mem _ q)) fun a q => n a (List.mem_cons_of_mem _ q)) m
open Classical in
/-- own addresses given away -/
noncomputable def frzG (H G : Hp) (F : List Addr) : Hp := fun a => if a ∈ F then H a else G a
theorem frz_in (h : a ∈ F) : frzG H G F a = H a := by unfold frzG; rw [if_pos h]
theorem frz_out (h : a ∉ F) : frzG H G F a = G a := by unfold frzG; rw [if_neg h]
theorem same_frz (n : ∀ a, a ∈ F → G a = none) : Same G (frzG H G F) := fun a o e => by
  by_cases h : a ∈ F
  · rw [n a h] at e; cases e
  · rw [frz_out h]; exact e
theorem frz_same (s : Same G H) : Same (frzG H G F) H := fun a o e => by
  by_cases h : a ∈ F
  · rw [frz_in h] at e; exact e
  · rw [frz_out h] at e; exact s a o e
theorem frz_sub (s : Sub κ G H) (h : ∀ a o, a ∈ F → H a = some o → nt o) : Sub κ (frzG H G F) H := ⟨frz_same s.s, fun a o e => by
  by_cases m : a ∈ F
  · rw [frz_in m] at e; exact h a o m e
  · rw [frz_out m] at e; exact s.n a o e, s.t⟩
theorem RFs.frz {G0 : Hp} (g : Same G G0) : ∀ {vs : List V} {fs : List Fd} {F : List Addr}, RFs κ H G vs fs F → (∀ a, a ∈ F → G0 a = H a) → RpA κ G0 vs (fs.map Fd.d)
  | _, _, _, .nil, _ => .nil
  | _, _, _, .sh r t, h => .cons (r.mono g) (RFs.frz g t h)
  | _, _, _, .ow h1 h2 r m t, h => .cons (.lst (by rw [h _ List.mem_cons_self]; exact h1) (r.mono g)) (RFs.frz g t fun a q => h a (List.mem_cons_of_mem _ q))
theorem RO.frz {d : D} (r : RO κ H G v o F) (e : o.d = some d) : Rp κ (frzG H G F) v d := by
  have g : Same G (frzG H G F) := same_frz fun a q => (r.own q).2
  cases r with
  | ls h1 h2 t => cases e; exact .lst (by rw [frz_in List.mem_cons_self]; exact h1) (t.mono g)
  | ob h1 h2 h3 t m =>
    cases e
    exact .ob (by rw [frz_in List.mem_cons_self]; exact h1) (by rw [List.length_map]; exact h3) (t.frz g fun a q => by rw [frz_in (List.mem_cons_of_mem _ q)])
  | dc h1 h2 t => cases e
  | @sq a b xs fs F h1 h2 t m =>
    have r := t.frz g fun c q => by rw [frz_in (List.mem_cons_of_mem _ q)]
    cases b with
    | true => cases e; exact .tup (by rw [frz_in List.mem_cons_self]; exact h1) r
    | false => cases e; exact .lst (by rw [frz_in List.mem_cons_self]; exact h1) r
theorem RO.ls_inv {l : List D} (r : RO κ H G v (.ls l) F) : ∃ a xs, v = .ref a ∧ F = [a] ∧ H a = some (.lst xs) ∧ G a = none ∧ RpA κ G xs l := by
  cases r with
  | ls h1 h2 h3 => exact ⟨_, _, rfl, rfl, h1, h2, h3⟩
theorem RO.at (r : RO κ H G v o F) : ∃ a, v = .ref a ∧ a ∈ F := by
  cases r <;> exact ⟨_, rfl, List.mem_cons_self⟩
end

/-- a slot: nothing told; a value that all may hold; a list of the def's own (unlocked, locked by a loop); a list that is only read here; an own thing that was handed in to be changed; an own thing -/
inductive Sl where
  | un | sh (d : D) | ow (l : List D) | lk (l : List D) | bo (l : List D) | io (o : O) | tr (o : O)
def Sl.th : Sl → Option O
  | .ow l => some (.ls l)
  | .lk l => some (.ls l)
  | .io o => some o
  | .tr o => some o
  | _ => none
def Sl.mut : Sl → Bool
  | .ow _ => true
  | .io _ => true
  | .tr _ => true
  | _ => false
abbrev En := List Sl

def Mt (G : Gh) (env : En) (a : Addr) : Prop := ∃ (i : Nat) (s : Sl), env[i]? = some s ∧ s.mut = true ∧ a ∈ G.fp i
def Own (G : Gh) (env : En) (i : Nat) (a : Addr) : Prop := ∃ s o, env[i]? = some s ∧ s.th = some o ∧ a ∈ G.fp i
def RSl (κ : Kx) (H G : Hp) (v : Option (Option V)) (F : List Addr) : Sl → Prop
  | .un => F = []
  | .sh d => F = [] ∧ ∃ x, v = some (some x) ∧ Rp κ G x d
  | .bo l => ∃ a xs, v = some (some (.ref a)) ∧ H a = some (.lst xs) ∧ RpA κ G xs l ∧ F = [a]
  | .ow l => ∃ x, v = some (some x) ∧ RO κ H G x (.ls l) F
  | .lk l => ∃ x, v = some (some x) ∧ RO κ H G x (.ls l) F
  | .io o => ∃ x, v = some (some x) ∧ RO κ H G x o F
  | .tr o => ∃ x, v = some (some x) ∧ RO κ H G x o F
theorem RSl.th {κ : Kx} {H G : Hp} {v : Option (Option V)} {F : List Addr} {s : Sl} {o : O} (r : RSl κ H G v F s) (h : s.th = some o) : ∃ x, v = some (some x) ∧ RO κ H G x o F := by
  cases s <;> cases h <;> exact r
theorem RSl.of {κ : Kx} {H G : Hp} {v : Option (Option V)} {F : List Addr} {s : Sl} {o : O} {x : V} (h : s.th = some o) (e : v = some (some x)) (r : RO κ H G x o F) : RSl κ H G v F s := by
  cases s <;> cases h <;> exact ⟨x, e, r⟩
theorem mut_th {s : Sl} (h : s.mut = true) : ∃ o, s.th = some o := by
  cases s <;> first
    | (cases h; done)
    | exact ⟨_, rfl⟩
structure Rep (κ : Kx) (H : Hp) (G : Gh) (σ : L2.St) (env : En) : Prop where
  sub : Sub κ G.g H
  len : σ.length = env.length
  slot : ∀ (i : Nat) (s : Sl), env[i]? = some s → RSl κ H G σ[i]? (G.fp i) s
  inj : ∀ (i j : Nat) (a : Addr) (t : Sl), Own G env i a → env[j]? = some t → a ∈ G.fp j → i = j
def Sl.fix : Sl → Bool
  | .lk _ => true
  | .bo _ => true
  | .io _ => true
  | _ => false
/-- what a fixed slot was before -/
def Sl.was : Sl → Sl → Prop
  | .io _, s => ∃ o, s = .io o
  | t, s => s = t
/-- a locked slot, and a list that is only read, stand as they were; what was handed in stands where it stood -/
def Lk (G : Gh) (σ : L2.St) (env : En) (G' : Gh) (σ' : L2.St) (env' : En) : Prop := ∀ (i : Nat) (s : Sl), s.fix = true → env'[i]? = some s → ∃ s0, env[i]? = some s0 ∧ s.was s0 ∧ σ'[i]? = σ[i]? ∧ (s0 = s → s.mut = false → G'.fp i = G.fp i)
/-- only the def's own unlocked things may have changed, what is shared stays shared; no old thing has become the def's own -/
structure Fr (H : Hp) (G : Gh) (σ : L2.St) (env : En) (H' : Hp) (G' : Gh) (σ' : L2.St) (env' : En) : Prop where
  hk : ∀ a o, H a = some o → ¬ Mt G env a → ∃ o', H' a = some o' ∧ (nt o → o' = o)
  gk : Same G G'
  gn : ∀ a o, H a = some o → G.g a = none → ¬ Mt G env a → G'.g a = none
  mm : ∀ a o, H a = some o → Mt G' env' a → Mt G env a
  lk : Lk G σ env G' σ' env'
/-- .. where the def ends -/
structure FrR (H : Hp) (G : Gh) (σ : L2.St) (env : En) (H' : Hp) (G' : Gh) : Prop where
  hk : ∀ a o, H a = some o → ¬ Mt G env a → ∃ o', H' a = some o' ∧ (nt o → o' = o)
  gk : Same G G'
  gn : ∀ a o, H a = some o → G.g a = none → ¬ Mt G env a → G'.g a = none
theorem was_refl {s : Sl} (h : s.fix = true) : s.was s := by
  cases s <;> first
    | (cases h; done)
    | rfl
    | exact ⟨_, rfl⟩
theorem was_fix {s t : Sl} (h : s.fix = true) (w : s.was t) : t.fix = true := by
  cases s <;> first
    | (cases h; done)
    | (obtain ⟨o, rfl⟩ := w; rfl)
    | (cases w; rfl)
theorem was_trans {s t u : Sl} (h : s.fix = true) (w : s.was t) (z : t.was u) : s.was u := by
  cases s <;> first
    | (cases h; done)
    | (obtain ⟨o, rfl⟩ := w; exact z)
    | (cases w; exact z)
theorem was_eq {s t : Sl} (h : s.mut = false) (f : s.fix = true) (w : s.was t) : t = s := by
  cases s <;> first
    | (cases f; done)
    | (cases h; done)
    | exact w
theorem Lk.refl {G : Gh} {σ : L2.St} {env : En} : Lk G σ env G σ env := fun _ s f h => ⟨s, h, was_refl f, rfl, fun _ _ => rfl⟩
theorem Fr.at {H H' : Hp} {G G' : Gh} {σ σ' : L2.St} {env env' : En} (f : Fr H G σ env H' G' σ' env') {a : Addr} {o : HO} (e : H a = some o) (m : ¬ Mt G env a) (n : nt o := by first | assumption | exact fun _ z => nomatch z | exact And.left (by assumption)) : H' a = some o := by
  obtain ⟨o', h1, h2⟩ := f.hk a o e m
  rw [h1, h2 n]
/-- one change behind another -/
theorem hk_trans {H1 H2 : Hp} {a : Addr} {o : HO} (x : ∃ o', H1 a = some o' ∧ (nt o → o' = o)) (y : ∀ o', H1 a = some o' → ∃ o2, H2 a = some o2 ∧ (nt o' → o2 = o')) : ∃ o', H2 a = some o' ∧ (nt o → o' = o) := by
  obtain ⟨o1, h1, n1⟩ := x
  obtain ⟨o2, h2, n2⟩ := y o1 h1
  exact ⟨o2, h2, fun n => by
    have := n1 n
    subst this
    exact n2 n⟩
theorem Fr.refl {H : Hp} {G : Gh} {σ : L2.St} {env : En} : Fr H G σ env H G σ env := ⟨fun _ o h _ => ⟨o, h, fun _ => rfl⟩, Same.refl _, fun _ _ _ h _ => h, fun _ _ _ h => h, Lk.refl⟩
theorem Fr.trans {H H1 H2 : Hp} {G G1 G2 : Gh} {σ σ1 σ2 : L2.St} {env env1 env2 : En} (x : Fr H G σ env H1 G1 σ1 env1) (y : Fr H1 G1 σ1 env1 H2 G2 σ2 env2) : Fr H G σ env H2 G2 σ2 env2 where
  hk := fun a o h n => hk_trans (x.hk a o h n) fun o' e => y.hk a o' e fun m => n (x.mm a o h m)
  gk := x.gk.trans y.gk
  gn := fun a o h g n => by
    obtain ⟨o', e, _⟩ := x.hk a o h n
    exact y.gn a o' e (x.gn a o h g n) fun m => n (x.mm a o h m)
  mm := fun a o h m => by
    by_cases n : Mt G env a
    · exact n
    · obtain ⟨o', e, _⟩ := x.hk a o h n
      exact x.mm a o h (y.mm a o' e m)
  lk := fun i l z h => by
    obtain ⟨s1, h1, w1, e1, f1⟩ := y.lk i l z h
    obtain ⟨s2, h2, w2, e2, f2⟩ := x.lk i s1 (was_fix z w1) h1
    refine ⟨s2, h2, was_trans z w1 w2, e1.trans e2, fun q m => ?_⟩
    have q1 := was_eq m z w1
    subst q1
    exact (f1 rfl m).trans (f2 q m)
theorem Fr.toR {H H1 H2 : Hp} {G G1 G2 : Gh} {σ σ1 : L2.St} {env env1 : En} (x : Fr H G σ env H1 G1 σ1 env1) (y : FrR H1 G1 σ1 env1 H2 G2) : FrR H G σ env H2 G2 where
  hk := fun a o h n => hk_trans (x.hk a o h n) fun o' e => y.hk a o' e fun m => n (x.mm a o h m)
  gk := x.gk.trans y.gk
  gn := fun a o h g n => by
    obtain ⟨o', e, _⟩ := x.hk a o h n
    exact y.gn a o' e (x.gn a o h g n) fun m => n (x.mm a o h m)
/-- nothing that stood has changed -/
theorem Fr.same {H H' : Hp} {G G' : Gh} {σ : L2.St} {env env' : En} (s : Grw H H') (g : Same G G') (gn : ∀ a o, H a = some o → G.g a = none → ¬ Mt G env a → G'.g a = none) (mm : ∀ a o, H a = some o → Mt G' env' a → Mt G env a) (l : ∀ (i : Nat) (s : Sl), s.fix = true → env'[i]? = some s → env[i]? = some s ∧ G'.fp i = G.fp i) :
    Fr H G σ env H' G' σ env' := ⟨fun a o h _ => s a o h, g, gn, mm, fun i m z h => ⟨m, (l i m z h).1, was_refl z, rfl, fun _ _ => (l i m z h).2⟩⟩

/-! ### results -/
inductive Rs where
  | sh (d : D) | ow (l : List D) | tr (o : O)
def Rs.d : Rs → Option D
  | .sh d => some d
  | .ow l => some (.lst l)
  | .tr o => o.d
inductive Q (α : Type) where
  | ok (a : α) (e : En) | ex (x : Ex) (e : En)
abbrev Sm (α : Type) := En → Option (Q α)
def bnd {α β : Type} (m : Sm α) (f : α → Sm β) : Sm β := fun e => match m e with
  | none => none
  | some (.ok a e') => f a e'
  | some (.ex x e') => some (.ex x e')
def ret {α : Type} (a : α) : Sm α := fun e => some (.ok a e)

/-- how a reading's value stands for a result -/
abbrev Rl (α β : Type) := L2.St → (Addr → Prop) → Hp → Gh → En → β → α → Prop
/-- an address that is in no slot -/
def Fre (G : Gh) (env : En) (a : Addr) : Prop := ∀ i s, env[i]? = some s → a ∉ G.fp i
def RV (κ : Kx) : Rl Rs V := fun _ N H G env v r => match r with
  | .sh d => Rp κ G v d
  | .ow l => ∃ a xs, v = .ref a ∧ H a = some (.lst xs) ∧ G.g a = none ∧ RpA κ G xs l ∧ Fre G env a ∧ N a
  | .tr o => ∃ F, RO κ H G v o F ∧ ∀ a, a ∈ F → Fre G env a ∧ N a
def RB (κ : Kx) : Rl D V := fun _ _ H G _ v d => Rp κ G v d ∨ ∃ a xs l, d = .lst l ∧ v = .ref a ∧ H a = some (.lst xs) ∧ RpA κ G xs l
def RT : Rl Bool Bool := fun _ _ _ _ _ b c => b = c
inductive RBs (κ : Kx) (H G : Hp) : List Bool → List V → List D → Prop
  | nil : RBs κ H G [] [] []
  | sh {ms : List Bool} {v : V} {vs : List V} {d : D} {ds : List D} : Rp κ G v d → RBs κ H G ms vs ds → RBs κ H G (false :: ms) (v :: vs) (d :: ds)
  | bo {ms : List Bool} {v : V} {vs : List V} {d : D} {ds : List D} : (Rp κ G v d ∨ ∃ a xs l, d = .lst l ∧ v = .ref a ∧ H a = some (.lst xs) ∧ RpA κ G xs l) → RBs κ H G ms vs ds → RBs κ H G (true :: ms) (v :: vs) (d :: ds)
def RA (κ : Kx) (ms : List Bool) : Rl (List D) (List V) := fun _ _ H G _ vs ds => RBs κ H G ms vs ds

class RlMono {α β : Type} (R : Rl α β) : Prop where
  mono : ∀ {σ : L2.St} {N N' : Addr → Prop} {H : Hp} {G : Gh} {env : En} {b : β} {a : α}, (∀ c, N c → N' c) → R σ N H G env b a → R σ N' H G env b a
instance {κ : Kx} : RlMono (RV κ) := ⟨fun {σ N N' H G env v r} h q => by
  cases r with
  | sh d => exact q
  | ow l =>
    obtain ⟨a, xs, h1, h2, h3, h4, h5, h6⟩ := q
    exact ⟨a, xs, h1, h2, h3, h4, h5, h _ h6⟩
  | tr o =>
    obtain ⟨F, h1, h2⟩ := q
    exact ⟨F, h1, fun a m => ⟨(h2 a m).1, h _ (h2 a m).2⟩⟩⟩
instance {κ : Kx} : RlMono (RB κ) := ⟨fun _ q => q⟩
instance : RlMono RT := ⟨fun _ q => q⟩
instance {κ : Kx} {ms : List Bool} : RlMono (RA κ ms) := ⟨fun _ q => q⟩

/-- fresh, or the def's own -/
def Nw (H : Hp) (G : Gh) (env : En) (a : Addr) : Prop := ∀ o, H a = some o → Mt G env a
section
variable {α β : Type}
/-- .. that may change what is the def's own -/
def EPostI (κ : Kx) (W : WX) (R : Rl α β) (σ : L2.St) (H : Hp) (G : Gh) (env : En) (o : Option (Q α)) (P : β → Hp → Prop) : Prop := match o with
  | none => False
  | some (.ok a env') => ∀ v H' G', Rep κ H' G' σ env' → R σ (Nw H G env) H' G' env' v a → Fr H G σ env H' G' σ env' → P v H'
  | some (.ex x env') => ∀ c d H' G', Rep κ H' G' σ env' → XR κ G' x c d → Fr H G σ env H' G' σ env' → W c d σ H'
def EPost (κ : Kx) (W : WX) (R : Rl α β) (σ : L2.St) (H : Hp) (G : Gh) (env : En) (o : Option (Q α)) (P : β → Hp → Prop) : Prop := match o with
  | none => False
  | some (.ok a env') => ∀ v H' G', Rep κ H' G' σ env' → R σ (Nw H G env) H' G' env' v a → Grw H H' → Fr H G σ env H' G' σ env' → P v H'
  | some (.ex x env') => ∀ c d H' G', Rep κ H' G' σ env' → XR κ G' x c d → Grw H H' → Fr H G σ env H' G' σ env' → W c d σ H'
/-- the reading of a plain function -/
def tX (κ : Kx) (W : WX) (R : Rl α β) (m : Sm α) : L2.St → Hp → (β → Hp → Prop) → Prop := fun σ H P => ∃ G env, Rep κ H G σ env ∧ EPost κ W R σ H G env (m env) P
def tI (κ : Kx) (W : WX) (R : Rl α β) (m : Sm α) : L2.St → Hp → (β → Hp → Prop) → Prop := fun σ H P => ∃ G env, Rep κ H G σ env ∧ EPostI κ W R σ H G env (m env) P
variable {κ : Kx} {W : WX} {R : Rl α β} {σ : L2.St} {H H1 : Hp} {G G1 : Gh} {env env1 : En}
theorem EPostI.pu {o : Option (Q α)} {P : β → Hp → Prop} (h : EPostI κ W R σ H G env o P) : EPost κ W R σ H G env o P := by
  cases o with
  | none => exact h
  | some q => cases q with
    | ok a e => exact fun v H' G' a b _ d => h v H' G' a b d
    | ex x e => exact fun c d H' G' a b _ f => h c d H' G' a b f
theorem tI.pu {m : Sm α} {P : β → Hp → Prop} (h : tI κ W R m σ H P) : tX κ W R m σ H P := by
  obtain ⟨G, env, r, q⟩ := h
  exact ⟨G, env, r, q.pu⟩
theorem EPost.mono {o : Option (Q α)} {P P' : β → Hp → Prop} (h : EPost κ W R σ H G env o P) (k : ∀ v H', P v H' → P' v H') : EPost κ W R σ H G env o P' := by
  cases o with
  | none => exact h
  | some q => cases q with
    | ok a e => exact fun v H' G' a b c d => k _ _ (h v H' G' a b c d)
    | ex x e => exact h
theorem EPostI.mono {o : Option (Q α)} {P P' : β → Hp → Prop} (h : EPostI κ W R σ H G env o P) (k : ∀ v H', P v H' → P' v H') : EPostI κ W R σ H G env o P' := by
  cases o with
  | none => exact h
  | some q => cases q with
    | ok a e => exact fun v H' G' a b c => k _ _ (h v H' G' a b c)
    | ex x e => exact h
theorem tX.mono {m : Sm α} {P P' : β → Hp → Prop} (h : tX κ W R m σ H P) (k : ∀ v H', P v H' → P' v H') : tX κ W R m σ H P' := by
  obtain ⟨G, env, r, q⟩ := h
  exact ⟨G, env, r, q.mono k⟩
theorem EPost.shift [RlMono R] {o : Option (Q α)} {P : β → Hp → Prop} (s : Grw H H1) (f : Fr H G σ env H1 G1 σ env1) (h : EPost κ W R σ H G env o P) : EPost κ W R σ H1 G1 env1 o P := by
  cases o with
  | none => exact h
  | some q => cases q with
    | ok a e => exact fun v H' G' r1 r2 s2 f2 => h v H' G' r1 (RlMono.mono (fun c n o e => by obtain ⟨o', e', _⟩ := s c o e; exact f.mm c o e (n o' e')) r2) (s.trans s2) (f.trans f2)
    | ex x e => exact fun c d H' G' r1 r2 s2 f2 => h c d H' G' r1 r2 (s.trans s2) (f.trans f2)
theorem Nw.shift {σ1 : L2.St} (f : Fr H G σ env H1 G1 σ1 env1) {c : Addr} (n : Nw H1 G1 env1 c) : Nw H G env c := fun o e => by
  by_cases m : Mt G env c
  · exact m
  · obtain ⟨o', e', _⟩ := f.hk c o e m
    exact f.mm c o e (n o' e')
theorem EPostI.shift [RlMono R] {o : Option (Q α)} {P : β → Hp → Prop} (f : Fr H G σ env H1 G1 σ env1) (h : EPostI κ W R σ H G env o P) : EPostI κ W R σ H1 G1 env1 o P := by
  cases o with
  | none => exact h
  | some q => cases q with
    | ok a e => exact fun v H' G' r1 r2 f2 => h v H' G' r1 (RlMono.mono (fun c n => n.shift f) r2) (f.trans f2)
    | ex x e => exact fun c d H' G' r1 r2 f2 => h c d H' G' r1 r2 (f.trans f2)
end
/-- two in a row -/
theorem bind_post {α β γ δ : Type} {κ : Kx} {W : WX} {R : Rl α β} {R2 : Rl γ δ} [RlMono R2] {σ : L2.St} {H : Hp} {G : Gh} {env : En} {m : Sm α} {f : α → Sm γ} {P : δ → Hp → Prop} (r : Rep κ H G σ env) (h : EPost κ W R2 σ H G env (bnd m f env) P)
    {P' : β → Hp → Prop} (k : ∀ a env1 v H1 G1, m env = some (.ok a env1) → Rep κ H1 G1 σ env1 → R σ (Nw H G env) H1 G1 env1 v a → Grw H H1 → Fr H G σ env H1 G1 σ env1 → EPost κ W R2 σ H1 G1 env1 (f a env1) P → P' v H1) :
    tX κ W R m σ H P' := by
  refine ⟨G, env, r, ?_⟩
  unfold bnd at h
  cases e : m env with
  | none => rw [e] at h; exact h
  | some q => cases q with
    | ok a e1 =>
      rw [e] at h
      exact fun v H1 G1 r1 r2 s2 f2 => k a e1 v H1 G1 e r1 r2 s2 f2 (EPost.shift s2 f2 h)
    | ex x e1 =>
      rw [e] at h
      exact h
theorem bind_postI {α β γ δ : Type} {κ : Kx} {W : WX} {R : Rl α β} {R2 : Rl γ δ} [RlMono R2] {σ : L2.St} {H : Hp} {G : Gh} {env : En} {m : Sm α} {f : α → Sm γ} {P : δ → Hp → Prop} (r : Rep κ H G σ env) (h : EPostI κ W R2 σ H G env (bnd m f env) P)
    {P' : β → Hp → Prop} (k : ∀ a env1 v H1 G1, m env = some (.ok a env1) → Rep κ H1 G1 σ env1 → R σ (Nw H G env) H1 G1 env1 v a → Fr H G σ env H1 G1 σ env1 → EPostI κ W R2 σ H1 G1 env1 (f a env1) P → P' v H1) :
    tI κ W R m σ H P' := by
  refine ⟨G, env, r, ?_⟩
  unfold bnd at h
  cases e : m env with
  | none => rw [e] at h; exact h
  | some q => cases q with
    | ok a e1 =>
      rw [e] at h
      exact fun v H1 G1 r1 r2 f2 => k a e1 v H1 G1 e r1 r2 f2 (EPostI.shift f2 h)
    | ex x e1 =>
      rw [e] at h
      exact h

/-! ### statements -/
inductive SO where
  | nx (e : En) | bk (e : En) | ct (e : En) | rt (r : Rs) | rv (r : Rs) (e : En) | ex (x : Ex) (e : En)
abbrev Ss := En → Option SO
/-- a def hands back -/
def RR (κ : Kx) (N : Addr → Prop) (H : Hp) (G : Hp) (v : V) : Rs → Prop
  | .sh d => Rp κ G v d
  | .ow l => ∃ a xs, v = .ref a ∧ H a = some (.lst xs) ∧ G a = none ∧ RpA κ G xs l ∧ N a
  | .tr o => ∃ F, RO κ H G v o F ∧ ∀ a, a ∈ F → N a
def SPost (κ : Kx) (W : WX) (σ : L2.St) (H : Hp) (G : Gh) (env : En) (o : Option SO) (D : Ends) : Prop := match o with
  | none => False
  | some (.nx env') => ∀ σ' H' G', Rep κ H' G' σ' env' → Fr H G σ env H' G' σ' env' → D.nx σ' H'
  | some (.bk env') => ∀ σ' H' G', Rep κ H' G' σ' env' → Fr H G σ env H' G' σ' env' → D.bk σ' H'
  | some (.ct env') => ∀ σ' H' G', Rep κ H' G' σ' env' → Fr H G σ env H' G' σ' env' → D.ct σ' H'
  | some (.rt r) => ∀ v H' (G' : Gh), Sub κ G'.g H' → RR κ (Nw H G env) H' G' v r → FrR H G σ env H' G' → D.rt v H'
  | some (.rv r env') => ∀ v σ' H' G', Rep κ H' G' σ' env' → RV κ σ' (Nw H G env) H' G' env' v r → Fr H G σ env H' G' σ' env' → D.rt v H'
  | some (.ex x env') => ∀ c d σ' H' G', Rep κ H' G' σ' env' → XR κ G' x c d → Fr H G σ env H' G' σ' env' → W c d σ' H'
def tS (κ : Kx) (W : WX) (m : Ss) : TS := fun D σ H => ∃ G env, Rep κ H G σ env ∧ SPost κ W σ H G env (m env) D
section
variable {κ : Kx} {W : WX} {σ σ1 : L2.St} {H H1 : Hp} {G G1 : Gh} {env env1 : En} {D D' : Ends}
theorem RR.mono {G : Hp} {N N' : Addr → Prop} {v : V} {r : Rs} (h : ∀ c, N c → N' c) (q : RR κ N H G v r) : RR κ N' H G v r := by
  cases r with
  | sh d => exact q
  | ow l =>
    obtain ⟨a, xs, h1, h2, h3, h4, h5⟩ := q
    exact ⟨a, xs, h1, h2, h3, h4, h _ h5⟩
  | tr o =>
    obtain ⟨F, h1, h2⟩ := q
    exact ⟨F, h1, fun a m => h _ (h2 a m)⟩
theorem SPost.mono {o : Option SO} (h : SPost κ W σ H G env o D) (k1 : ∀ s h, D.nx s h → D'.nx s h) (k2 : ∀ s h, D.bk s h → D'.bk s h) (k3 : ∀ s h, D.ct s h → D'.ct s h) (k4 : ∀ s h, D.rt s h → D'.rt s h) : SPost κ W σ H G env o D' := by
  cases o with
  | none => exact h
  | some q => cases q with
    | nx e => exact fun σ' H' G' a b => k1 _ _ (h σ' H' G' a b)
    | bk e => exact fun σ' H' G' a b => k2 _ _ (h σ' H' G' a b)
    | ct e => exact fun σ' H' G' a b => k3 _ _ (h σ' H' G' a b)
    | rt r => exact fun v H' G' a b c => k4 _ _ (h v H' G' a b c)
    | rv r e => exact fun v σ' H' G' a b c => k4 _ _ (h v σ' H' G' a b c)
    | ex x e => exact h
theorem SPost.shift {o : Option SO} (f : Fr H G σ env H1 G1 σ1 env1) (h : SPost κ W σ H G env o D) : SPost κ W σ1 H1 G1 env1 o D := by
  cases o with
  | none => exact h
  | some q => cases q with
    | nx e => exact fun σ' H' G' a b => h σ' H' G' a (f.trans b)
    | bk e => exact fun σ' H' G' a b => h σ' H' G' a (f.trans b)
    | ct e => exact fun σ' H' G' a b => h σ' H' G' a (f.trans b)
    | rt r => exact fun v H' G' a b c => h v H' G' a (b.mono fun _ n => n.shift f) (f.toR c)
    | rv r e => exact fun v σ' H' G' a b c => h v σ' H' G' a (RlMono.mono (fun _ n => n.shift f) b) (f.trans c)
    | ex x e => exact fun c d σ' H' G' a b g => h c d σ' H' G' a b (f.trans g)
end
/-- an expression in a statement -/
def sbnd {α : Type} (m : Sm α) (f : α → Ss) : Ss := fun e => match m e with
  | none => none
  | some (.ok a e') => f a e'
  | some (.ex x e') => some (.ex x e')
theorem sbind_post {α β : Type} {κ : Kx} {W : WX} {R : Rl α β} {σ : L2.St} {H : Hp} {G : Gh} {env : En} {m : Sm α} {f : α → Ss} {D : Ends} (r : Rep κ H G σ env) (h : SPost κ W σ H G env (sbnd m f env) D)
    {P' : β → Hp → Prop} (k : ∀ a env1 v H1 G1, m env = some (.ok a env1) → Rep κ H1 G1 σ env1 → R σ (Nw H G env) H1 G1 env1 v a → Fr H G σ env H1 G1 σ env1 → SPost κ W σ H1 G1 env1 (f a env1) D → P' v H1) :
    tI κ W R m σ H P' := by
  refine ⟨G, env, r, ?_⟩
  unfold sbnd at h
  cases e : m env with
  | none => rw [e] at h; exact h
  | some q => cases q with
    | ok a e1 =>
      rw [e] at h
      exact fun v H1 G1 r1 r2 f2 => k a e1 v H1 G1 e r1 r2 f2 (SPost.shift f2 h)
    | ex x e1 =>
      rw [e] at h
      exact fun c d H' G' a b g => h c d σ H' G' a b g
/-! ### heaps and slots -/
section
variable {κ : Kx} {W : WX} {σ : L2.St} {H H' : Hp} {G G' : Gh} {env : En} {p : Addr} {xs : List V} {l : List D}
theorem Rep.grow (r : Rep κ H G σ env) (h : Grw H H') (g : Same G G') (s : Sub κ G'.g H') (f : ∀ i, G'.fp i = G.fp i) (o : ∀ i a, Own G env i a → G'.g a = none) : Rep κ H' G' σ env where
  sub := s
  len := r.len
  slot := fun i s e => by
    have q := r.slot i s e
    rw [f i]
    have th : ∀ {o : O}, s.th = some o → RSl κ H' G' σ[i]? (G.fp i) s := fun {o'} z => by
      obtain ⟨x, e1, e2⟩ := q.th z
      exact .of z e1 (e2.grow g (fun a o m e => h.at e (e2.pl m e).1) fun a m => o i a ⟨s, o', e, z, m⟩)
    cases s with
    | un => exact q
    | sh d =>
      obtain ⟨h0, x, h1, h2⟩ := q
      exact ⟨h0, x, h1, h2.mono g⟩
    | ow l => exact th rfl
    | lk l => exact th rfl
    | io o => exact th rfl
    | tr o => exact th rfl
    | bo l =>
      obtain ⟨a, xs, h1, h2, h4, h5⟩ := q
      exact ⟨a, xs, h1, h.at h2, h4.mono g, h5⟩
  inj := fun i j a t ⟨s, o, e1, e2, m⟩ e3 m3 => by
    rw [f i] at m
    rw [f j] at m3
    exact r.inj i j a t ⟨s, o, e1, e2, m⟩ e3 m3
theorem Rep.own (r : Rep κ H G σ env) {i : Nat} {a : Addr} (o : Own G env i a) : (∃ u, H a = some u) ∧ G.g a = none := by
  obtain ⟨s, o, e, t, m⟩ := o
  obtain ⟨x, e1, e2⟩ := (r.slot i s e).th t
  exact e2.own m
theorem Rep.live (r : Rep κ H G σ env) {i : Nat} {s : Sl} {a : Addr} (e : env[i]? = some s) (m : a ∈ G.fp i) : ∃ u, H a = some u := by
  have q := r.slot i s e
  have th : ∀ {o : O}, s.th = some o → ∃ u, H a = some u := fun {o} t => (r.own ⟨s, o, e, t, m⟩).1
  cases s with
  | un => rw [show G.fp i = [] from q] at m; cases m
  | sh d => rw [q.1] at m; cases m
  | ow l => exact th rfl
  | lk l => exact th rfl
  | io o => exact th rfl
  | tr o => exact th rfl
  | bo l =>
    obtain ⟨b, xs, h1, h2, h4, h5⟩ := q
    rw [h5] at m
    rw [List.mem_singleton.mp m]
    exact ⟨_, h2⟩
theorem Rep.pl (r : Rep κ H G σ env) {i : Nat} {s : Sl} {a : Addr} {o : HO} (e : env[i]? = some s) (m : a ∈ G.fp i) (h : H a = some o) : pln o := by
  have q := r.slot i s e
  have th : ∀ {o' : O}, s.th = some o' → pln o := fun {o'} t => by
    obtain ⟨x, _, e2⟩ := q.th t
    exact e2.pl m h
  cases s with
  | un => rw [show G.fp i = [] from q] at m; cases m
  | sh d => rw [q.1] at m; cases m
  | ow l => exact th rfl
  | lk l => exact th rfl
  | io o => exact th rfl
  | tr o => exact th rfl
  | bo l =>
    obtain ⟨b, xs, h1, h2, h4, h5⟩ := q
    rw [h5] at m
    rw [List.mem_singleton.mp m, h2] at h
    cases h
    exact ⟨(fun _ z => nomatch z), (fun _ z => nomatch z)⟩
theorem Rep.fre (r : Rep κ H G σ env) (hp : H p = none) : Fre G env p := fun i s e m => by
  obtain ⟨u, h⟩ := r.live e m
  rw [hp] at h
  cases h
theorem same_new {H : Hp} {p : Addr} {o : HO} (h : H p = none) : Same H (upd H p o) := fun a u e => by
  rw [upd_ne (ne_of_none e h)]
  exact e
theorem same_upd {G H : Hp} {p : Addr} {o : HO} (s : Same G H) (h : G p = none) : Same G (upd H p o) := fun a u e => by
  rw [upd_ne (ne_of_none e h)]
  exact s a u e
theorem same_both {G H : Hp} {p : Addr} {o : HO} (s : Same G H) : Same (upd G p o) (upd H p o) := fun a u e => by
  by_cases h : a = p
  · subst h; rw [upd_same] at e ⊢; exact e
  · rw [upd_ne h] at e ⊢; exact s a u e
theorem Same.none {G H : Hp} {p : Addr} (s : Same G H) (h : H p = none) : G p = none := by
  cases q : G p with
  | none => rfl
  | some o => rw [s p o q] at h; cases h
theorem Sub.new {κ : Kx} {G H : Hp} {p : Addr} {o : HO} (s : Sub κ G H) (h : H p = none) : Sub κ G (upd H p o) := s.kept (same_new h)
theorem Sub.both {κ : Kx} {G H : Hp} {p : Addr} {o : HO} (s : Sub κ G H) (h : H p = none) (n : nt o) : Sub κ (upd G p o) (upd H p o) := ⟨same_both s.s, fun a u e => by
  by_cases z : a = p
  · rw [z, upd_same] at e
    cases e
    exact n
  · rw [upd_ne z] at e
    exact s.n a u e, tabs_of s.t fun a u e _ => same_new h a u e⟩
theorem Sub.none {κ : Kx} {G H : Hp} {p : Addr} (s : Sub κ G H) (h : H p = none) : G p = none := Same.none s.s h
/-- what stands at the end of a reading's last step -/
structure Stp (κ : Kx) (σ : L2.St) (env : En) (H : Hp) (G : Gh) (H' : Hp) (G' : Gh) : Prop where
  rep : Rep κ H' G' σ env
  same : Grw H H'
  fr : Fr H G σ env H' G' σ env
theorem Stp.refl (r : Rep κ H G σ env) : Stp κ σ env H G H G := ⟨r, Grw.refl _, Fr.refl⟩
theorem fr_upd {o : HO} (hp : H p = none) : Fr H G σ env (upd H p o) G σ env := Fr.same (gr (same_new hp)) (Same.refl _) (fun _ _ _ h _ => h) (fun _ _ _ h => h) fun _ _ _ h => ⟨h, rfl⟩
/-- a new list of the def's own -/
theorem new_ow (r : Rep κ H G σ env) (hp : H p = none) (h : RpA κ G xs l) : Stp κ σ env H G (upd H p (.lst xs)) G ∧ RV κ σ (Nw H G env) (upd H p (.lst xs)) G env (.ref p) (.ow l) := by
  have gp := r.sub.none hp
  refine ⟨⟨r.grow (gr (same_new hp)) (Same.refl _) (r.sub.new hp) (fun _ => rfl) fun i a o => (r.own o).2, gr (same_new hp), fr_upd hp⟩, p, xs, rfl, upd_same, gp, h, r.fre hp, fun o e => ?_⟩
  rw [hp] at e
  cases e
/-- a new thing that all may hold -/
theorem new_sh {o : HO} (r : Rep κ H G σ env) (hp : H p = none) (hn : nt o := by first | assumption | exact fun _ z => nomatch z) : Stp κ σ env H G (upd H p o) (G.up p o) := by
  have gp := r.sub.none hp
  refine ⟨r.grow (gr (same_new hp)) (same_new gp) (r.sub.both hp hn) (fun _ => rfl) fun i a q => ?_, gr (same_new hp), Fr.same (gr (same_new hp)) (same_new gp) (fun a u h g _ => ?_) (fun _ _ _ h => h) fun _ _ _ h => ⟨h, rfl⟩⟩
  · obtain ⟨⟨u, h⟩, g⟩ := r.own q
    show upd G.g p o a = none
    rw [upd_ne (ne_of_none h hp)]
    exact g
  · show upd G.g p o a = none
    rw [upd_ne (ne_of_none h hp)]
    exact g
/-- own addresses that no slot holds, given away -/
theorem freeze {H0 : Hp} {G0 : Gh} {σ0 : L2.St} {env0 : En} {F : List Addr} (r : Rep κ H G σ env) (hg : ∀ a, a ∈ F → G.g a = none) (f : ∀ a, a ∈ F → Fre G env a) (n : ∀ a, a ∈ F → ∀ o, H0 a = some o → Mt G0 env0 a) (fr : Fr H0 G0 σ0 env0 H G σ env) (hn : ∀ a o, a ∈ F → H a = some o → pln o) :
    Rep κ H ⟨frzG H G F, G.fp⟩ σ env ∧ Fr H0 G0 σ0 env0 H ⟨frzG H G F, G.fp⟩ σ env := by
  have sg : Same G.g (frzG H G F) := same_frz hg
  refine ⟨r.grow (G' := ⟨frzG H G F, G.fp⟩) (Grw.refl _) sg (frz_sub r.sub fun a o m e => (hn a o m e).1) (fun _ => rfl) fun i b o => ?_, fr.hk, fr.gk.trans sg, fun b o e g m => ?_, fr.mm, fr.lk⟩
  · obtain ⟨s, o', e, t, m⟩ := id o
    show frzG H G F b = none
    rw [frz_out fun q => f b q i s e m]
    exact (r.own o).2
  · show frzG H G F b = none
    rw [frz_out fun q => m (n b q o e)]
    exact fr.gn b o e g m
end
/-- .. as a value that all may hold -/
def RP (κ : Kx) : Rl D V := fun _ _ _ G _ v d => Rp κ G v d
instance {κ : Kx} : RlMono (RP κ) := ⟨fun _ q => q⟩
def frz (m : Sm Rs) : Sm D := fun e => match m e with
  | none => none
  | some (.ok r e') => match r.d with
    | some d => some (.ok d e')
    | none => none
  | some (.ex x e') => some (.ex x e')
section
variable {X : Cx} {κ : Kx} {W : WX} {e : Expr}
theorem PE.imp {t t' : TE} (h : PE X e t) (k : ∀ σ H Q, t' σ H Q → t σ H Q) : PE X e t' := ⟨fun pins s σ H Q I q => h.run pins s σ H Q I (k σ H Q q)⟩
theorem PT.imp {t t' : TT} (h : PT X e t) (k : ∀ σ H Q, t' σ H Q → t σ H Q) : PT X e t' := ⟨fun pins s σ H Q I q => h.run pins s σ H Q I (k σ H Q q)⟩
theorem PW.imp {t t' : TT} (h : PW X e t) (k : ∀ σ H Q, t' σ H Q → t σ H Q) : PW X e t' := ⟨fun wh pins s σ H Q I q => h.run wh pins s σ H Q I (k σ H Q q)⟩
theorem PA.imp {es : List Expr} {t t' : TA} (h : PA X es t) (k : ∀ σ H Q, t' σ H Q → t σ H Q) : PA X es t' := ⟨fun pos pins s σ H Q I q => h.run pos pins s σ H Q I (k σ H Q q)⟩
theorem PS.imp {st : Stmt} {t t' : TS} (h : PS X st t) (k : ∀ D σ H, t' D σ H → t D σ H) : PS X st t' := ⟨fun pins s σ H D I q => h.run pins s σ H D I (k D σ H q)⟩
theorem PSs.imp {st : List Stmt} {t t' : TS} (h : PSs X st t) (k : ∀ D σ H, t' D σ H → t D σ H) : PSs X st t' := ⟨fun pins s σ H D I q => h.run pins s σ H D I (k D σ H q)⟩
/-- a reading that changes nothing, as one that may -/
theorem im {α : Type} {R : Rl α V} {m : Sm α} (h : PE X e (tX κ W R m)) : PE X e (tI κ W R m) := PE.imp h fun _ _ _ q => q.pu
theorem im_t {m : Sm Bool} (h : PT X e (tX κ W RT m)) : PT X e (tI κ W RT m) := PT.imp h fun _ _ _ q => q.pu
theorem im_a {α : Type} {R : Rl α (List V)} {m : Sm α} {es : List Expr} (h : PA X es (tX κ W R m)) : PA X es (tI κ W R m) := PA.imp h fun _ _ _ q => q.pu
theorem frz_rv {H : Hp} {G : Gh} {σ : L2.St} {env : En} {H0 : Hp} {G0 : Gh} {σ0 : L2.St} {env0 : En} {v : V} {r : Rs} {d : D} (rp : Rep κ H G σ env) (rv : RV κ σ (Nw H0 G0 env0) H G env v r) (e : r.d = some d) (fr : Fr H0 G0 σ0 env0 H G σ env) :
    ∃ G', Rep κ H G' σ env ∧ Rp κ G' v d ∧ Fr H0 G0 σ0 env0 H G' σ env := by
  cases r with
  | sh d' => cases e; exact ⟨G, rp, rv, fr⟩
  | ow l =>
    cases e
    obtain ⟨a, xs, rfl, h2, h3, h4, h5, h6⟩ := rv
    have ro : RO κ H G (.ref a) (.ls l) [a] := .ls h2 h3 h4
    obtain ⟨g1, g2⟩ := freeze (F := [a]) rp (fun b m => by rw [List.mem_singleton.mp m]; exact h3) (fun b m => by rw [List.mem_singleton.mp m]; exact h5) (fun b m => by rw [List.mem_singleton.mp m]; exact h6) fr fun a o m e => ro.pl m e
    exact ⟨_, g1, ro.frz rfl, g2⟩
  | tr o =>
    obtain ⟨F, ro, h⟩ := rv
    obtain ⟨g1, g2⟩ := freeze (F := F) rp (fun b m => (ro.own m).2) (fun b m => (h b m).1) (fun b m => (h b m).2) fr fun a o m e => ro.pl m e
    exact ⟨_, g1, ro.frz e, g2⟩
/-- a value, given away -/
theorem v_frz {m : Sm Rs} (h : PE X e (tX κ W (RV κ) m)) : PE X e (tX κ W (RP κ) (frz m)) := PE.imp h fun σ H Q ⟨G, env, r, q⟩ => by
  refine ⟨G, env, r, ?_⟩
  unfold frz at q
  cases z : m env with
  | none => rw [z] at q; exact q
  | some y => cases y with
    | ex x e1 => rw [z] at q; exact q
    | ok a e1 =>
      rw [z] at q
      intro v H1 G1 r1 rv s1 f1
      cases w : a.d with
      | none => dsimp only at q; rw [w] at q; exact q.elim
      | some d =>
        dsimp only at q
        rw [w] at q
        obtain ⟨G2, r2, rp, f2⟩ := frz_rv r1 rv w f1
        exact q _ H1 _ r2 rp s1 f2
theorem i_frz {m : Sm Rs} (h : PE X e (tI κ W (RV κ) m)) : PE X e (tI κ W (RP κ) (frz m)) := PE.imp h fun σ H Q ⟨G, env, r, q⟩ => by
  refine ⟨G, env, r, ?_⟩
  unfold frz at q
  cases z : m env with
  | none => rw [z] at q; exact q
  | some y => cases y with
    | ex x e1 => rw [z] at q; exact q
    | ok a e1 =>
      rw [z] at q
      intro v H1 G1 r1 rv f1
      cases w : a.d with
      | none => dsimp only at q; rw [w] at q; exact q.elim
      | some d =>
        dsimp only at q
        rw [w] at q
        obtain ⟨G2, r2, rp, f2⟩ := frz_rv r1 rv w f1
        exact q _ H1 _ r2 rp f2
theorem v_bo {m : Sm D} (h : PE X e (tX κ W (RP κ) m)) : PE X e (tX κ W (RB κ) m) := PE.imp h fun σ H Q ⟨G, env, r, q⟩ => by
  refine ⟨G, env, r, ?_⟩
  cases z : m env with
  | none => rw [z] at q; exact q
  | some y => cases y with
    | ex x e1 => rw [z] at q; exact q
    | ok a e1 =>
      rw [z] at q
      exact fun v H1 G1 r1 r2 s1 f1 => q v H1 G1 r1 (.inl r2) s1 f1
def shm (m : Sm D) : Sm Rs := fun e => match m e with
  | none => none
  | some (.ok d e') => some (.ok (.sh d) e')
  | some (.ex x e') => some (.ex x e')
theorem v_sh {m : Sm D} (h : PE X e (tX κ W (RP κ) m)) : PE X e (tX κ W (RV κ) (shm m)) := PE.imp h fun σ H Q ⟨G, env, r, q⟩ => by
  refine ⟨G, env, r, ?_⟩
  unfold shm at q
  cases z : m env with
  | none => rw [z] at q; exact q
  | some y => cases y with
    | ex x e1 => rw [z] at q; exact q
    | ok a e1 => rw [z] at q; exact q
theorem i_sh {m : Sm D} (h : PE X e (tI κ W (RP κ) m)) : PE X e (tI κ W (RV κ) (shm m)) := PE.imp h fun σ H Q ⟨G, env, r, q⟩ => by
  refine ⟨G, env, r, ?_⟩
  unfold shm at q
  cases z : m env with
  | none => rw [z] at q; exact q
  | some y => cases y with
    | ex x e1 => rw [z] at q; exact q
    | ok a e1 => rw [z] at q; exact q
/-! ### names and constants -/
/-- a name that is only looked at -/
def eB (i : Nat) : Sm D := fun env => match env[i]? with
  | some (.sh d) => some (.ok d env)
  | some (.ow l) => some (.ok (.lst l) env)
  | some (.lk l) => some (.ok (.lst l) env)
  | some (.bo l) => some (.ok (.lst l) env)
  | some (.io (.ls l)) => some (.ok (.lst l) env)
  | _ => none
/-- a name whose value is given away -/
def eV (i : Nat) : Sm D := fun env => match env[i]? with
  | some (.sh d) => some (.ok d env)
  | some (.ow l) => some (.ok (.lst l) (env.set i (.sh (.lst l))))
  | some (.tr o) => match o.d with
    | some d => some (.ok d (env.set i (.sh d)))
    | none => none
  | _ => none
def eC (d : D) : Sm D := fun env => some (.ok d env)
theorem b_var {i : Nat} {x : Str} {pos : Pos} (h : PE X (.Name x pos) (tVar i)) : PE X (.Name x pos) (tX κ W (RB κ) (eB i)) := PE.imp h fun σ H Q ⟨G, env, r, q⟩ => by
  unfold eB at q
  cases z : env[i]? with
  | none => rw [z] at q; exact q.elim
  | some s =>
    have rs := r.slot i s z
    rw [z] at q
    have ls : ∀ {l : List D}, s.th = some (.ls l) → EPost κ W (RB κ) σ H G env (some (.ok (.lst l) env)) Q → tVar i σ H Q := fun {l} t q => by
      obtain ⟨x, e1, e2⟩ := rs.th t
      obtain ⟨a, xs, rfl, _, h1, h2, h3⟩ := e2.ls_inv
      exact ⟨_, e1, q _ H G r (.inr ⟨_, _, l, rfl, rfl, h1, h3⟩) (Grw.refl _) Fr.refl⟩
    cases s with
    | un => exact q.elim
    | sh d =>
      obtain ⟨_, v, h1, h2⟩ := rs
      exact ⟨v, h1, q v H G r (.inl h2) (Grw.refl _) Fr.refl⟩
    | ow l => exact ls rfl q
    | lk l => exact ls rfl q
    | bo l =>
      obtain ⟨a, xs, h1, h2, h4, _⟩ := rs
      exact ⟨_, h1, q _ H G r (.inr ⟨a, xs, l, rfl, rfl, h2, h4⟩) (Grw.refl _) Fr.refl⟩
    | io o =>
      cases o with
      | ls l => exact ls rfl q
      | _ => exact q.elim
    | tr o => exact q.elim
end
section
variable {κ : Kx} {σ : L2.St} {H : Hp} {G : Gh} {env : En}
theorem set_look {env : En} {i j : Nat} {s t : Sl} (h : (env.set i s)[j]? = some t) : (j = i ∧ t = s) ∨ (i ≠ j ∧ env[j]? = some t) := by
  by_cases w : i = j
  · subst w
    by_cases hl : i < env.length
    · rw [List.getElem?_set_self hl] at h
      exact .inl ⟨rfl, (Option.some.inj h).symm⟩
    · rw [List.getElem?_eq_none (by simpa using hl)] at h
      cases h
  · rw [List.getElem?_set_ne w] at h
    exact .inr ⟨w, h⟩
theorem put_at {G : Gh} {i : Nat} {F : List Addr} : (G.put i F).fp i = F := by unfold Gh.put; exact if_pos rfl
theorem put_ne {G : Gh} {i j : Nat} {F : List Addr} (h : i ≠ j) : (G.put i F).fp j = G.fp j := by unfold Gh.put; exact if_neg fun z => h z.symm
/-- slot i told otherwise: its new thing, where nothing else lies -/
theorem Rep.re (r : Rep κ H G σ env) {i : Nat} {s : Sl} {F : List Addr} {H' g' : Hp} {x : Option V} (hi : i < env.length) (sub : Sub κ g' H') (gk : Same G.g g')
    (hs : RSl κ H' g' (some x) F s)
    (ks : ∀ j t a, i ≠ j → env[j]? = some t → a ∈ G.fp j → ∀ o, H a = some o → H' a = some o)
    (kn : ∀ j a, i ≠ j → Own G env j a → g' a = none)
    (new : ∀ a, a ∈ F → ∀ j t, i ≠ j → env[j]? = some t → a ∉ G.fp j) :
    Rep κ H' (Gh.mk g' (G.put i F).fp) (σ.set i x) (env.set i s) := by
  have hσ : i < σ.length := by rw [r.len]; exact hi
  refine ⟨sub, by rw [List.length_set, List.length_set]; exact r.len, fun j t e => ?_, fun j k a t o e m => ?_⟩
  · rcases set_look e with ⟨rfl, rfl⟩ | ⟨w, e1⟩
    · rw [List.getElem?_set_self hσ]
      show RSl κ H' g' _ ((G.put j F).fp j) t
      rw [put_at]
      exact hs
    · rw [List.getElem?_set_ne w]
      show RSl κ H' g' _ ((G.put i F).fp j) t
      rw [put_ne w]
      have q := r.slot j t e1
      have th : ∀ {o : O}, t.th = some o → RSl κ H' g' σ[j]? (G.fp j) t := fun {o'} z => by
        obtain ⟨x, e3, e4⟩ := q.th z
        exact .of z e3 (e4.grow gk (fun a o m e5 => ks j t a w e1 m o e5) fun a m => kn j a w ⟨t, o', e1, z, m⟩)
      cases t with
      | un => exact q
      | sh d =>
        obtain ⟨h0, x, h1, h2⟩ := q
        exact ⟨h0, x, h1, h2.mono gk⟩
      | ow l => exact th rfl
      | lk l => exact th rfl
      | io o => exact th rfl
      | tr o => exact th rfl
      | bo l =>
        obtain ⟨a, xs, h1, h2, h4, h5⟩ := q
        exact ⟨a, xs, h1, ks j (.bo l) a w e1 (by rw [h5]; exact List.mem_singleton_self a) _ h2, h4.mono gk, h5⟩
  · obtain ⟨s', o', e', t', m'⟩ := o
    have m1 : a ∈ (G.put i F).fp j := m'
    have m2 : a ∈ (G.put i F).fp k := m
    clear m m'
    rcases set_look e' with ⟨rfl, rfl⟩ | ⟨w1, e1⟩
    · rw [put_at] at m1
      rcases set_look e with ⟨rfl, rfl⟩ | ⟨w2, e2⟩
      · rfl
      · rw [put_ne w2] at m2
        exact absurd m2 (new a m1 k t w2 e2)
    · rw [put_ne w1] at m1
      rcases set_look e with ⟨rfl, rfl⟩ | ⟨w2, e2⟩
      · rw [put_at] at m2
        exact absurd m1 (new a m2 j s' w1 e1)
      · rw [put_ne w2] at m2
        exact r.inj j k a t ⟨s', o', e1, t', m1⟩ e2 m2
/-- .. what the frame says of it -/
theorem Fr.re {i : Nat} {s s0 : Sl} {F : List Addr} {H' g' : Hp} {x : Option V} (e0 : env[i]? = some s0)
    (hk : ∀ a o, H a = some o → ¬ Mt G env a → ∃ o', H' a = some o' ∧ (nt o → o' = o)) (gk : Same G.g g') (gn : ∀ a o, H a = some o → G.g a = none → ¬ Mt G env a → g' a = none)
    (mm : s.mut = true → ∀ a o, a ∈ F → H a = some o → Mt G env a) (fx : s.fix = true → s.was s0 ∧ x = (σ[i]?).getD none ∧ i < σ.length ∧ s.mut = true) :
    Fr H G σ env H' (Gh.mk g' (G.put i F).fp) (σ.set i x) (env.set i s) where
  hk := hk
  gk := gk
  gn := gn
  mm := fun a o e m => by
    obtain ⟨j, t, e1, h, m⟩ := m
    have m : a ∈ (G.put i F).fp j := m
    rcases set_look e1 with ⟨rfl, rfl⟩ | ⟨w, e2⟩
    · rw [put_at] at m
      exact mm h a o m e
    · rw [put_ne w] at m
      exact ⟨j, t, e2, h, m⟩
  lk := fun j t f e => by
    rcases set_look e with ⟨rfl, rfl⟩ | ⟨w, e2⟩
    · obtain ⟨h1, h2, h3, h4⟩ := fx f
      refine ⟨s0, e0, h1, ?_, fun _ q => by rw [h4] at q; cases q⟩
      rw [List.getElem?_set_self h3, h2, List.getElem?_eq_getElem h3]
      rfl
    · exact ⟨t, e2, was_refl f, List.getElem?_set_ne w, fun _ _ => put_ne w⟩
theorem set_same {σ : L2.St} {i : Nat} {x : Option V} (h : σ[i]? = some x) : σ.set i x = σ := by
  refine List.ext_getElem? fun j => ?_
  by_cases w : i = j
  · subst w
    rw [List.getElem?_set_self (List.getElem?_eq_some_iff.mp h).1, h]
  · rw [List.getElem?_set_ne w]
/-- the own thing at slot i, given away -/
theorem Rep.give {i : Nat} {s : Sl} {o : O} {d : D} (r : Rep κ H G σ env) (e : env[i]? = some s) (t : s.th = some o) (hm : s.mut = true) (hd : o.d = some d) : ∃ v G', σ[i]? = some (some v) ∧ Rep κ H G' σ (env.set i (.sh d)) ∧ Rp κ G' v d ∧
    Fr H G σ env H G' σ (env.set i (.sh d)) := by
  obtain ⟨v, h1, ro⟩ := (r.slot i s e).th t
  have hi : i < env.length := (List.getElem?_eq_some_iff.mp e).1
  have sg : Same G.g (frzG H G (G.fp i)) := same_frz fun a m => (ro.own m).2
  have rp := ro.frz hd
  have me : ∀ a, a ∈ G.fp i → Own G env i a := fun a m => ⟨s, o, e, t, m⟩
  have re := r.re (s := .sh d) (F := []) (x := some v) hi (frz_sub r.sub fun a o m e => (ro.pl m e).1) sg ⟨rfl, v, rfl, rp⟩ (fun _ _ _ _ _ _ _ h => h) (fun j a w ow => by
    obtain ⟨t', o', e', z', m'⟩ := id ow
    rw [frz_out fun m => w (r.inj i j a t' (me a m) e' m')]
    exact (r.own ow).2) fun a m => by cases m
  have fr := Fr.re (σ := σ) (H := H) (H' := H) (g' := frzG H G (G.fp i)) (s := .sh d) (F := []) (x := some v) (s0 := s) e (fun _ o h _ => ⟨o, h, fun _ => rfl⟩) sg (fun a o' h g n => by
    rw [frz_out fun m => n ⟨i, s, e, hm, m⟩]
    exact g) (fun q => by cases q) fun q => by cases q
  rw [set_same h1] at re fr
  exact ⟨v, _, h1, re, rp, fr⟩
end
section
variable {X : Cx} {κ : Kx} {W : WX} {e : Expr}
theorem v_var {i : Nat} {x : Str} {pos : Pos} (h : PE X (.Name x pos) (tVar i)) : PE X (.Name x pos) (tX κ W (RP κ) (eV i)) := PE.imp h fun σ H Q ⟨G, env, r, q⟩ => by
  unfold eV at q
  cases z : env[i]? with
  | none => rw [z] at q; exact q.elim
  | some s =>
    have rs := r.slot i s z
    rw [z] at q
    have gv : ∀ {o : O} {d : D}, s.th = some o → s.mut = true → o.d = some d → EPost κ W (RP κ) σ H G env (some (.ok d (env.set i (.sh d)))) Q → tVar i σ H Q := fun {o d} t hm hd q => by
      obtain ⟨v, G', g1, g2, g3, g4⟩ := r.give z t hm hd
      exact ⟨v, g1, q _ H _ g2 g3 (Grw.refl _) g4⟩
    cases s with
    | un => exact q.elim
    | sh d =>
      obtain ⟨_, v, h1, h2⟩ := rs
      exact ⟨v, h1, q v H G r h2 (Grw.refl _) Fr.refl⟩
    | ow l => exact gv rfl rfl rfl q
    | lk l => exact q.elim
    | bo l => exact q.elim
    | io o => exact q.elim
    | tr o =>
      dsimp only at q
      cases w : o.d with
      | none => rw [w] at q; exact q.elim
      | some d => rw [w] at q; exact gv rfl rfl w q
theorem v_const {v : V} {d : D} (h : PE X e (tC v)) (r0 : ∀ G, Rp κ G v d) : PE X e (tX κ W (RP κ) (eC d)) := PE.imp h fun σ H Q ⟨G, env, r, q⟩ => q v H G r (r0 G) (Grw.refl _) Fr.refl
theorem v_int {i : Int} {j : Nat} {pos : Pos} : PE X (.Constant (.int i) j pos) (tX κ W (RP κ) (eC (.int i))) := v_const pe_int fun _ => .int i
theorem v_bl {b : Bool} {j : Nat} {pos : Pos} : PE X (.Constant (.bool b) j pos) (tX κ W (RP κ) (eC (.bl b))) := v_const pe_bl fun _ => .bl b
theorem v_non {j : Nat} {pos : Pos} : PE X (.Constant .none j pos) (tX κ W (RP κ) (eC .non)) := v_const pe_non fun _ => .non
theorem v_str {x : Str} {j : Nat} {pos : Pos} {w : List Nat} (h : x = S w) : PE X (.Constant (.str x) j pos) (tX κ W (RP κ) (eC (.str w))) := v_const pe_str fun _ => h ▸ .str w
end
/-! ### operators -/
def fOp {γ : Type} (f : D → D → Option γ) (ma mb : Sm D) : Sm γ := bnd ma fun x => bnd mb fun y => fun e => match f x y with
  | some z => some (.ok z e)
  | none => none
def RBq (κ : Kx) (H G : Hp) (v : V) (d : D) : Prop := Rp κ G v d ∨ ∃ a xs l, d = .lst l ∧ v = .ref a ∧ H a = some (.lst xs) ∧ RpA κ G xs l
section
variable {κ : Kx} {H G H' G' : Hp} {v : V} {d : D}
theorem RBq.mono (h : Grw H H') (g : Same G G') (r : RBq κ H G v d) : RBq κ H' G' v d := by
  rcases r with r | ⟨a, xs, l, h1, h2, h3, h4⟩
  · exact .inl (r.mono g)
  · exact .inr ⟨a, xs, l, h1, h2, h.at h3, h4.mono g⟩
theorem RBq.int {i : Int} (r : RBq κ H G v (.int i)) : v = .int i := by
  rcases r with r | ⟨a, xs, l, h1, _⟩
  · cases r; rfl
  · cases h1
theorem RBq.bl {i : Bool} (r : RBq κ H G v (.bl i)) : v = .bl i := by
  rcases r with r | ⟨a, xs, l, h1, _⟩
  · cases r; rfl
  · cases h1
theorem RBq.non (r : RBq κ H G v .non) : v = .non := by
  rcases r with r | ⟨a, xs, l, h1, _⟩
  · cases r; rfl
  · cases h1
theorem RBq.str {w : List Nat} (r : RBq κ H G v (.str w)) : v = .str (S w) := by
  rcases r with r | ⟨a, xs, l, h1, _⟩
  · cases r; rfl
  · cases h1
theorem RBq.lst {l : List D} (s : Same G H) (r : RBq κ H G v (.lst l)) : ∃ a xs, v = .ref a ∧ H a = some (.lst xs) ∧ RpA κ G xs l := by
  rcases r with r | ⟨a, xs, l, h1, h2, h3, h4⟩
  · cases r with
    | lst h t => exact ⟨_, _, rfl, s _ _ h, t⟩
  · cases h1
    exact ⟨a, xs, h2, h3, h4⟩
theorem RBq.tup {l : List D} (s : Same G H) (r : RBq κ H G v (.tup l)) : ∃ a xs, v = .ref a ∧ H a = some (.tup xs) ∧ RpA κ G xs l := by
  rcases r with r | ⟨a, xs, l, h1, h2, h3, h4⟩
  · cases r with
    | tup h t => exact ⟨_, _, rfl, s _ _ h, t⟩
  · cases h1
theorem RBq.scr {l : List Int} (s : Same G H) (r : RBq κ H G v (.scr l)) : ∃ a, v = .ref a ∧ SqL κ.K H a (l.map V.int) := by
  rcases r with r | ⟨a, xs, l, h1, h2, h3, h4⟩
  · cases r with
    | scr h => exact ⟨_, rfl, same_l s h⟩
  · cases h1
theorem RBq.ob {c : Nat} {l : List D} (s : Same G H) (r : RBq κ H G v (.ob c l)) : ∃ a dx fs, v = .ref a ∧ H a = some (.ins (κ.cl c) dx fs) ∧ fs.map Prod.fst = (κ.fl c).take l.length ∧ RpA κ G (fs.map Prod.snd) l := by
  rcases r with r | ⟨a, xs, l, h1, h2, h3, h4⟩
  · cases r with
    | ob h1 h2 t => exact ⟨_, _, _, rfl, s _ _ h1, h2, t⟩
  · cases h1
end
/-- the end: a value that is no list, nothing made -/
theorem post_sh {κ : Kx} {W : WX} {σ : L2.St} {H : Hp} {G : Gh} {env : En} {d : D} {Q : VK} {v : V} (r : Rep κ H G σ env) (h : Rp κ G v d) (q : EPost κ W (RV κ) σ H G env (some (.ok (.sh d) env)) Q) : Q v H := q v H G r h (Grw.refl _) Fr.refl
theorem post_tt {κ : Kx} {W : WX} {σ : L2.St} {H : Hp} {G : Gh} {env : En} {b : Bool} {Q : Bool → Hp → Prop} (r : Rep κ H G σ env) (q : EPost κ W RT σ H G env (some (.ok b env)) Q) : Q b H := q b H G r rfl (Grw.refl _) Fr.refl
theorem post_ow {κ : Kx} {W : WX} {σ : L2.St} {H : Hp} {G : Gh} {env : En} {l : List D} {xs : List V} {Q : VK} {p : Addr} (r : Rep κ H G σ env) (hp : H p = none) (h : RpA κ G xs l) (q : EPost κ W (RV κ) σ H G env (some (.ok (.ow l) env)) Q) : Q (.ref p) (upd H p (.lst xs)) := by
  obtain ⟨s, v⟩ := new_ow r hp h
  exact q _ _ G s.rep v s.same s.fr
theorem post_tup {κ : Kx} {W : WX} {σ : L2.St} {H : Hp} {G : Gh} {env : En} {l : List D} {xs : List V} {Q : VK} {p : Addr} (r : Rep κ H G σ env) (hp : H p = none) (h : RpA κ G xs l) (q : EPost κ W (RV κ) σ H G env (some (.ok (.sh (.tup l)) env)) Q) : Q (.ref p) (upd H p (.tup xs)) := by
  have s := new_sh (o := .tup xs) r hp
  exact q _ _ _ s.rep (.tup upd_same (h.mono (same_new (Same.none r.sub hp)))) s.same s.fr
/-- an operator's reading serves its function -/
def OpV (κ : Kx) (r : R2) (f : D → D → Option Rs) : Prop := ∀ (W : WX) (σ : L2.St) (x y : V) (dx dy : D) (z : Rs) (H : Hp) (G : Gh) (env : En) (Q : VK), f dx dy = some z → Rep κ H G σ env → RBq κ H G x dx → RBq κ H G y dy → EPost κ W (RV κ) σ H G env (some (.ok z env)) Q → r x y H Q
def OpB (κ : Kx) (r : R2) (f : D → D → Option Bool) : Prop := ∀ (x y : V) (dx dy : D) (z : Bool) (H G : Hp) (Q : VK), f dx dy = some z → Same G H → RBq κ H G x dx → RBq κ H G y dy → Q (.bl z) H → r x y H Q
section
variable {X : Cx} {κ : Kx} {W : WX} {a b c : Expr} {ma mb mc : Sm D} {pos : Pos}
theorem op_tr {γ δ : Type} {R' : Rl γ δ} [RlMono R'] {f : D → D → Option γ} {σ : L2.St} {H : Hp} {P : δ → Hp → Prop} {r : R2} {Q : VK}
    (hs : ∀ x y dx dy z H G env, f dx dy = some z → Rep κ H G σ env → RBq κ H G x dx → RBq κ H G y dy → EPost κ W R' σ H G env (some (.ok z env)) P → r x y H Q)
    (h : tX κ W R' (fOp f ma mb) σ H P) : tOp r (tX κ W (RB κ) ma) (tX κ W (RB κ) mb) σ H Q := by
  obtain ⟨G, env, rp, q⟩ := h
  refine bind_post rp q fun dx e1 x H1 G1 _ rp1 rx s1 f1 q1 => ?_
  refine bind_post rp1 q1 fun dy e2 y H2 G2 _ rp2 ry s2 f2 q2 => ?_
  cases z : f dx dy with
  | none => rw [z] at q2; exact q2.elim
  | some w => rw [z] at q2; exact hs x y dx dy w H2 G2 e2 z rp2 (RBq.mono s2 f2.gk rx) ry q2
theorem v_op {op : Operator} {r : R2} {f : D → D → Option Rs} (ho : OpR X (binaryOp op) r) (hs : OpV κ r f) (ha : PE X a (tX κ W (RB κ) ma)) (hb : PE X b (tX κ W (RB κ) mb)) : PE X (.BinOp a op b pos) (tX κ W (RV κ) (fOp f ma mb)) :=
  PE.imp (pe_op ho ha hb) fun σ H Q h => op_tr (fun x y dx dy z H G env e r rx ry q => hs W σ x y dx dy z H G env Q e r rx ry q) h
/-- a comparison as a value -/
def vB (f : D → D → Option Bool) : D → D → Option D := fun x y => match f x y with
  | some b => some (.bl b)
  | none => none
/-- .. as a test -/
theorem t_cmp {op : CmpOp} {r : R2} {f : D → D → Option Bool} (ho : OpR X (compareOp op) r) (hs : OpB κ r f) (ha : PE X a (tX κ W (RB κ) ma)) (hb : PE X b (tX κ W (RB κ) mb)) (hm : behindInMarks op b = false) : PT X (.Compare a [op] [b] pos) (tX κ W RT (fOp f ma mb)) :=
  PT.imp (pt_cmpR ho ha hb hm) fun σ H Q h => op_tr (Q := fun x H' => ∃ k, x = .bl k ∧ Q k H') (fun x y dx dy z H G env e r rx ry q => hs x y dx dy z H G _ e r.sub rx ry ⟨z, rfl, post_tt r q⟩) h
/-- a < b < c -/
def fCh (f g : D → D → Option Bool) (ma mb mc : Sm D) : Sm Bool := bnd ma fun x => bnd mb fun y => fun e => match f x y with
  | none => none
  | some false => some (.ok false e)
  | some true => bnd mc (fun z => fun e => match g y z with
    | some b => some (.ok b e)
    | none => none) e
end

/-! ### the operators' functions -/
abbrev szl : Nat := 1000000
theorem szl_le {n : Nat} (h : n ≤ szl) : n ≤ sizeLine := Nat.le_trans h (by decide)
theorem szl_lt {n : Nat} (h : n ≤ szl) : n < sizeLine := Nat.lt_of_le_of_lt h (by decide)
theorem S_add (a b : List Nat) : S a ++ S b = S (a ++ b) := congrArg Str.mk (show a.toArray ++ b.toArray = (a ++ b).toArray by simp)
def opAdd : D → D → Option Rs
  | .int i, .int j => some (.sh (.int (i + j)))
  | .str a, .str b => if a.length + b.length ≤ szl then some (.sh (.str (a ++ b))) else none
  | .lst a, .lst b => if a.length + b.length ≤ szl then some (.ow (a ++ b)) else none
  | _, _ => none
def rAddA : R2 := fun x y H Q => rI0 (fun i j => .int (i + j)) x y H Q ∨ (∃ i j, x = .str i ∧ y = .str j ∧ i.length + j.length ≤ sizeLine ∧ Q (.str (i ++ j)) H) ∨ rCat x y H Q
theorem o_add {X : Cx} : OpR X (binaryOp .Add) rAddA := OpR.or op_add (OpR.or op_add_str op_cat)
theorem s_add {κ : Kx} : OpV κ rAddA opAdd := fun W σ x y dx dy z H G env Q e r rx ry q => by
  cases dx <;> cases dy <;> try (cases e; done)
  · cases e
    exact .inl ⟨_, _, rx.int, ry.int, post_sh r (.int _) q⟩
  · rename_i a b
    dsimp only [opAdd] at e
    by_cases h : a.length + b.length ≤ szl
    · rw [if_pos h] at e
      cases e
      refine .inr (.inl ⟨_, _, rx.str, ry.str, by rw [S_len, S_len]; exact szl_le h, ?_⟩)
      rw [S_add]
      exact post_sh r (.str _) q
    · rw [if_neg h] at e; cases e
  · rename_i a b
    dsimp only [opAdd] at e
    by_cases h : a.length + b.length ≤ szl
    · rw [if_pos h] at e
      cases e
      obtain ⟨p, xs, rfl, h1, h2⟩ := rx.lst r.sub
      obtain ⟨p', ys, rfl, h3, h4⟩ := ry.lst r.sub
      exact .inr (.inr ⟨_, _, _, _, rfl, rfl, h1, h3, by rw [h2.length, h4.length]; exact szl_le h, fun p hp => post_ow r hp (h2.append h4) q⟩)
    · rw [if_neg h] at e; cases e
def opSub : D → D → Option Rs
  | .int i, .int j => some (.sh (.int (i - j)))
  | _, _ => none
theorem s_sub {κ : Kx} : OpV κ (rI0 fun i j => .int (i - j)) opSub := fun W σ x y dx dy z H G env Q e r rx ry q => by
  cases dx <;> cases dy <;> try (cases e; done)
  cases e
  exact ⟨_, _, rx.int, ry.int, post_sh r (.int _) q⟩
def opMod : D → D → Option Rs
  | .int i, .int j => if 0 < j then some (.sh (.int (i % j))) else none
  | _, _ => none
theorem s_mod {κ : Kx} : OpV κ (rI (fun _ j => 0 < j) fun i j => .int (i % j)) opMod := fun W σ x y dx dy z H G env Q e r rx ry q => by
  cases dx <;> cases dy <;> try (cases e; done)
  rename_i a b
  dsimp only [opMod] at e
  by_cases h : 0 < b
  · rw [if_pos h] at e
    cases e
    exact ⟨_, _, rx.int, ry.int, h, post_sh r (.int _) q⟩
  · rw [if_neg h] at e; cases e
def opDiv : D → D → Option Rs
  | .int i, .int j => if 0 < j ∧ j < 1000000000000000000000000000 then some (.sh (.int (i / j))) else none
  | _, _ => none
theorem s_div {κ : Kx} : OpV κ (rI CDivW fun i j => .int (i / j)) opDiv := fun W σ x y dx dy z H G env Q e r rx ry q => by
  cases dx <;> cases dy <;> try (cases e; done)
  rename_i a b
  dsimp only [opDiv] at e
  by_cases h : 0 < b ∧ b < 1000000000000000000000000000
  · rw [if_pos h] at e
    cases e
    exact ⟨_, _, rx.int, ry.int, wide_div (b := 90) h.1 (by omega) (by decide) (by decide), post_sh r (.int _) q⟩
  · rw [if_neg h] at e; cases e
def opMul : D → D → Option Rs
  | .int i, .int j => if Builtin.Int.intBits i + Builtin.Int.intBits j ≤ 134217728 then some (.sh (.int (i * j))) else none
  | .str a, .int j => if 0 ≤ j ∧ j ≤ 100000 ∧ a.length * j.toNat ≤ szl then some (.sh (.str (List.replicate j.toNat a).flatten)) else none
  | .lst a, .int j => if 0 ≤ j ∧ j ≤ 100000 ∧ a.length * j.toNat ≤ szl then some (.ow (List.replicate j.toNat a).flatten) else none
  | _, _ => none
def rMulS : R2 := fun x y H Q => ∃ (a : List Nat) (j : Int), x = .str (S a) ∧ y = .int j ∧ 0 ≤ j ∧ j ≤ 100000 ∧ a.length * j.toNat ≤ szl ∧ Q (.str (S (List.replicate j.toNat a).flatten)) H
theorem fold_rep (a : List Nat) : ∀ (n : Nat) (b : Array Nat), (List.replicate n a.toArray).foldl (· ++ ·) b = b ++ (List.replicate n a).flatten.toArray
  | 0, b => by simp
  | n + 1, b => by
    rw [List.replicate_succ, List.foldl_cons, fold_rep a n, List.replicate_succ, List.flatten_cons]
    simp
theorem mul_S (a : List Nat) (j : Int) (h : 0 ≤ j) : Txt.mul (S a) j = S (List.replicate j.toNat a).flatten := by
  unfold Txt.mul
  by_cases h1 : j < 1
  · rw [if_pos h1]
    have : j.toNat = 0 := by omega
    rw [this]
    rfl
  · rw [if_neg h1]
    by_cases h2 : (j == 1 || (S a).length == 0) = true
    · rw [if_pos h2]
      rw [Bool.or_eq_true] at h2
      rcases h2 with h2 | h2
      · have : j = 1 := by simpa using h2
        subst this
        show S a = S _
        rw [show (1 : Int).toNat = 1 from rfl, List.replicate_one]
        simp
      · rw [S_len] at h2
        have h3 : a = [] := by simpa using h2
        subst h3
        have : (List.replicate j.toNat ([] : List Nat)).flatten = [] := by simp
        rw [this]
    · rw [if_neg h2]
      show Str.mk _ = Str.mk _
      congr 1
      rw [show (S a).cps = a.toArray from rfl, fold_rep]
      simp
theorem o_mulS {X : Cx} : OpR X (binaryOp .Mult) rMulS := by
  intro pins s σ H x y v u Q I rx ry h
  obtain ⟨a, j, rfl, rfl, h1, h2, h3, q⟩ := h
  obtain ⟨t, rfl⟩ := rx
  obtain ⟨t', rfl⟩ := ry
  have hsz : sizeLine = 16777216 := sizeLine_eq
  refine SB.mul ⟨?_, fun h4 h5 => ?_, fun h4 h5 => ?_⟩ fun t' k => ?_
  · rw [Bool.or_eq_false_iff]
    exact ⟨decide_eq_false (by omega), decide_eq_false (by omega)⟩
  · rw [S_len]
    have h6 : (a.length : Int) * j ≤ 1000000 := by
      have e : ((a.length * j.toNat : Nat) : Int) = (a.length : Int) * j := by
        rw [Int.natCast_mul, Int.toNat_of_nonneg h1]
      rw [← e]
      have h3' : a.length * j.toNat ≤ 1000000 := h3
      exact Int.ofNat_le.mpr h3'
    have h7 : (a.length : Int) ≤ (a.length : Int) * j := by
      have : (a.length : Int) * 1 ≤ (a.length : Int) * j := Int.mul_le_mul_of_nonneg_left (by omega) (by omega)
      omega
    have h8 : (92233720368547 : Int) ≤ (2 ^ 63 - 1) / j := by
      rw [Int.le_ediv_iff_mul_le (by omega)]
      have : (92233720368547 : Int) * j ≤ 92233720368547 * 100000 := Int.mul_le_mul_of_nonneg_left h2 (by decide)
      omega
    omega
  · rw [S_len]
    unfold Builtin.Str.tooLong
    have : ¬ (a.length * j.toNat > sizeLine) := by
      have : a.length * j.toNat ≤ 1000000 := h3
      omega
    simpa using this
  · rw [mul_S a j h1]
    exact ⟨.str _, H, I.tok _, ⟨_, rfl⟩, q⟩
def rMulA : R2 := fun x y H Q => rI CMulX (fun i j => .int (i * j)) x y H Q ∨ rMulS x y H Q ∨ rRep x y H Q
theorem o_mul {X : Cx} : OpR X (binaryOp .Mult) rMulA := OpR.or op_mulX (OpR.or o_mulS op_rep)
theorem RpA.rep {κ : Kx} {G : Hp} {xs : List V} {l : List D} (h : RpA κ G xs l) : ∀ n : Nat, RpA κ G (List.replicate n xs).flatten (List.replicate n l).flatten
  | 0 => .nil
  | n + 1 => by
    rw [List.replicate_succ, List.replicate_succ, List.flatten_cons, List.flatten_cons]
    exact h.append (RpA.rep h n)
theorem s_mul {κ : Kx} : OpV κ rMulA opMul := fun W σ x y dx dy z H G env Q e r rx ry q => by
  cases dx <;> cases dy <;> try (cases e; done)
  · rename_i i j
    dsimp only [opMul] at e
    by_cases h : Builtin.Int.intBits i + Builtin.Int.intBits j ≤ 134217728
    · rw [if_pos h] at e
      cases e
      exact .inl ⟨_, _, rx.int, ry.int, by show ((Builtin.Int.intBits i : Nat) : Int) + ((Builtin.Int.intBits j : Nat) : Int) ≤ 134217728; omega, post_sh r (.int _) q⟩
    · rw [if_neg h] at e; cases e
  · rename_i a j
    dsimp only [opMul] at e
    by_cases h : 0 ≤ j ∧ j ≤ 100000 ∧ a.length * j.toNat ≤ szl
    · rw [if_pos h] at e
      cases e
      exact .inr (.inl ⟨_, _, rx.str, ry.int, h.1, h.2.1, h.2.2, post_sh r (.str _) q⟩)
    · rw [if_neg h] at e; cases e
  · rename_i a j
    dsimp only [opMul] at e
    by_cases h : 0 ≤ j ∧ j ≤ 100000 ∧ a.length * j.toNat ≤ szl
    · rw [if_pos h] at e
      cases e
      obtain ⟨p, xs, rfl, h1, h2⟩ := rx.lst r.sub
      exact .inr (.inr ⟨_, _, _, rfl, ry.int, h1, by omega, by omega, by rw [h2.length]; exact szl_le h.2.2, fun p hp => post_ow r hp (h2.rep _) q⟩)
    · rw [if_neg h] at e; cases e
def opPow : D → D → Option Rs
  | .int i, .int j => if 0 ≤ j ∧ j ≤ 1000 ∧ 0 ≤ i ∧ i ≤ 1000000 then some (.sh (.int (i ^ j.toNat))) else none
  | _, _ => none
/-! ### comparisons -/
mutual
def D.toP : D → PyData
  | .non => .none
  | .bl b => .bool b
  | .int i => .int i
  | .str w => .str (S w)
  | .lst l => .list (toPA l)
  | .tup l => .tuple (toPA l)
  | .ob _ _ => .none
  | .scr _ => .none
  | .xn _ _ => .none
def toPA : List D → List PyData
  | [] => []
  | d :: ds => d.toP :: toPA ds
end
mutual
def D.pl : D → Bool
  | .non => true
  | .bl _ => true
  | .int _ => true
  | .str w => w.all fun c => c < 0x110000
  | .lst l => plA l
  | .tup l => plA l
  | .ob _ _ => false
  | .scr _ => false
  | .xn _ _ => false
def plA : List D → Bool
  | [] => true
  | d :: ds => d.pl && plA ds
end
mutual
theorem pl_lay : ∀ d : D, d.pl = true → d.toP.canLay0 = true
  | .non, _ => by simp only [D.toP, PyData.canLay0]
  | .bl _, _ => by simp only [D.toP, PyData.canLay0]
  | .int _, _ => by simp only [D.toP, PyData.canLay0]
  | .str w, h => by
    simp only [D.toP, PyData.canLay0, PyData.strOk]
    simpa [D.pl, S] using h
  | .lst l, h => by
    simp only [D.toP, PyData.canLay0]
    exact plA_lay l (by simpa [D.pl] using h)
  | .tup l, h => by
    simp only [D.toP, PyData.canLay0]
    exact plA_lay l (by simpa [D.pl] using h)
  | .ob _ _, h => by simp [D.pl] at h
  | .scr _, h => by simp [D.pl] at h
  | .xn _ _, h => by simp [D.pl] at h
theorem plA_lay : ∀ l : List D, plA l = true → PyData.canLayAll0 (toPA l) = true
  | [], _ => by simp only [toPA, PyData.canLayAll0]
  | d :: ds, h => by
    have h' : d.pl = true ∧ plA ds = true := by simpa [plA] using h
    simp only [toPA, PyData.canLayAll0, pl_lay d h'.1, plA_lay ds h'.2, Bool.and_self]
end
section
variable {κ : Kx} {H G : Hp}
mutual
theorem Rp.dp (s : Same G H) : ∀ {v : V} {d : D}, Rp κ G v d → d.pl = true → Dp κ.K H v d.toP
  | _, _, .non, _ => .non
  | _, _, .bl b, _ => .bl b
  | _, _, .int i, _ => .int i
  | _, _, .str w, _ => .str _
  | _, _, .lst h t, p => .lst (SqL.of (s _ _ h)) (RpA.dp s t (by simpa [D.pl] using p))
  | _, _, .tup h t, p => .tup (SqT.of (s _ _ h)) (RpA.dp s t (by simpa [D.pl] using p))
  | _, _, .ob _ _ _, p => by simp [D.pl] at p
  | _, _, .scr _, p => by simp [D.pl] at p
  | _, _, .xn _, p => by simp [D.pl] at p
theorem RpA.dp (s : Same G H) : ∀ {vs : List V} {ds : List D}, RpA κ G vs ds → plA ds = true → DpAll κ.K H vs (toPA ds)
  | _, _, .nil, _ => .nil
  | _, _, .cons h t, p => by
    have p' := p
    simp only [plA, Bool.and_eq_true] at p'
    exact .cons (Rp.dp s h p'.1) (RpA.dp s t p'.2)
end
theorem RBq.dp {v : V} {d : D} (s : Same G H) (r : RBq κ H G v d) (p : d.pl = true) : Dp κ.K H v d.toP := by
  rcases r with r | ⟨a, xs, l, rfl, rfl, h3, h4⟩
  · exact r.dp s p
  · exact .lst (SqL.of h3) (h4.dp s (by simpa [D.pl] using p))
end
def D.okE (d : D) : Bool := d.pl && decide (d.toP.depth ≤ 64)
theorem okE_shaped {d : D} (h : d.okE = true) : SeqAt.shaped d.toP = true := by
  unfold D.okE at h
  rw [Bool.and_eq_true] at h
  unfold SeqAt.shaped
  rw [pl_lay d h.1, h.2]
  rfl
theorem okE_pl {d : D} (h : d.okE = true) : d.pl = true := by
  unfold D.okE at h
  rw [Bool.and_eq_true] at h
  exact h.1
def cEq : D → D → Option Bool
  | .int i, .int j => some (decide (i = j))
  | .str a, .str b => some (decide (a = b))
  | .bl a, .bl b => some (decide (a = b))
  | x, y => if x.okE = true ∧ y.okE = true then some (PyData.eqv x.toP y.toP) else none
def cNe : D → D → Option Bool := fun x y => match cEq x y with
  | some b => some (!b)
  | none => none
def rEqA (κ : Kx) : R2 := fun x y H Q => rEq x y H Q ∨ rEqD κ.K x y H Q
def rNeA (κ : Kx) : R2 := fun x y H Q => rNe x y H Q ∨ rNeD κ.K x y H Q
theorem o_eq {X : Cx} {κ : Kx} (hK : X.K = κ.K) (hu : X.A.units + 64 < cLine) : OpR X (compareOp .Eq) (rEqA κ) := by
  unfold rEqA
  rw [← hK]
  exact OpR.or op_eq (op_eqD hu)
theorem o_ne {X : Cx} {κ : Kx} (hK : X.K = κ.K) (hu : X.A.units + 64 < cLine) : OpR X (compareOp .NotEq) (rNeA κ) := by
  unfold rNeA
  rw [← hK]
  exact OpR.or op_ne (op_neD hu)
theorem dec_S {a b : List Nat} : decide (V.str (S a) = V.str (S b)) = decide (a = b) := by
  by_cases h : a = b
  · subst h; simp
  · rw [decide_eq_false h, decide_eq_false]
    intro z
    injection z with z
    exact h (S_inj z)
theorem cEq_cases (x y : D) : (∃ i j, x = .int i ∧ y = .int j) ∨ (∃ i j, x = .str i ∧ y = .str j) ∨ (∃ i j, x = .bl i ∧ y = .bl j) ∨ cEq x y = if x.okE = true ∧ y.okE = true then some (PyData.eqv x.toP y.toP) else none := by
  cases x <;> cases y <;> first
    | exact .inl ⟨_, _, rfl, rfl⟩
    | exact .inr (.inl ⟨_, _, rfl, rfl⟩)
    | exact .inr (.inr (.inl ⟨_, _, rfl, rfl⟩))
    | exact .inr (.inr (.inr rfl))
theorem eqA {κ : Kx} {x y : V} {dx dy : D} {z : Bool} {H G : Hp} {Q : VK} (e : cEq dx dy = some z) (s : Same G H) (rx : RBq κ H G x dx) (ry : RBq κ H G y dy) :
    (Q (.bl z) H → rEqA κ x y H Q) ∧ (Q (.bl (!z)) H → rNeA κ x y H Q) := by
  rcases cEq_cases dx dy with ⟨i, j, rfl, rfl⟩ | ⟨i, j, rfl, rfl⟩ | ⟨i, j, rfl, rfl⟩ | h
  · cases e
    rw [rx.int, ry.int]
    refine ⟨fun q => .inl ⟨rfl, ?_⟩, fun q => .inl ⟨rfl, ?_⟩⟩
    · rw [show decide (V.int i = V.int j) = decide (i = j) by simp]; exact q
    · rw [show decide (V.int i = V.int j) = decide (i = j) by simp]; exact q
  · cases e
    rw [rx.str, ry.str]
    refine ⟨fun q => .inl ⟨rfl, ?_⟩, fun q => .inl ⟨rfl, ?_⟩⟩
    · rw [dec_S]; exact q
    · rw [dec_S]; exact q
  · cases e
    rw [rx.bl, ry.bl]
    refine ⟨fun q => .inl ⟨rfl, ?_⟩, fun q => .inl ⟨rfl, ?_⟩⟩
    · rw [show decide (V.bl i = V.bl j) = decide (i = j) by simp]; exact q
    · rw [show decide (V.bl i = V.bl j) = decide (i = j) by simp]; exact q
  · rw [h] at e
    by_cases o : dx.okE = true ∧ dy.okE = true
    · rw [if_pos o] at e
      cases e
      exact ⟨fun q => .inr ⟨_, _, rx.dp s (okE_pl o.1), ry.dp s (okE_pl o.2), okE_shaped o.1, okE_shaped o.2, q⟩, fun q => .inr ⟨_, _, rx.dp s (okE_pl o.1), ry.dp s (okE_pl o.2), okE_shaped o.1, okE_shaped o.2, q⟩⟩
    · rw [if_neg o] at e; cases e
theorem s_eq {κ : Kx} : OpB κ (rEqA κ) cEq := fun x y dx dy z H G Q e s rx ry q => (eqA e s rx ry).1 q
theorem s_ne {κ : Kx} : OpB κ (rNeA κ) cNe := fun x y dx dy z H G Q e s rx ry q => by
  unfold cNe at e
  cases h : cEq dx dy with
  | none => rw [h] at e; cases e
  | some b =>
    rw [h] at e
    cases e
    exact (eqA h s rx ry).2 q
/-- < and its like: two ints, or two texts -/
def cmpB (f : Int → Int → Bool) (g : List Nat → List Nat → Bool) : D → D → Option Bool
  | .int i, .int j => some (f i j)
  | .str a, .str b => some (g a b)
  | _, _ => none
abbrev cLt := cmpB (fun i j => decide (i < j)) (fun a b => decide (a < b))
abbrev cLe := cmpB (fun i j => decide (i ≤ j)) (fun a b => !decide (b < a))
abbrev cGt := cmpB (fun i j => decide (j < i)) (fun a b => decide (b < a))
abbrev cGe := cmpB (fun i j => decide (j ≤ i)) (fun a b => !decide (a < b))
def rCm (f : Int → Int → Bool) (g : List Nat → List Nat → Bool) : R2 := fun x y H Q => rI0 (fun i j => .bl (f i j)) x y H Q ∨ ∃ i j : Str, x = .str i ∧ y = .str j ∧ Q (.bl (g i.cps.toList j.cps.toList)) H
theorem s_cm {κ : Kx} {f : Int → Int → Bool} {g : List Nat → List Nat → Bool} : OpB κ (rCm f g) (cmpB f g) := fun x y dx dy z H G Q e s rx ry q => by
  cases dx <;> cases dy <;> try (cases e; done)
  · cases e
    exact .inl ⟨_, _, rx.int, ry.int, q⟩
  · cases e
    exact .inr ⟨_, _, rx.str, ry.str, q⟩
section
variable {X : Cx}
theorem o_lt : OpR X (compareOp .Lt) (rCm (fun i j => decide (i < j)) (fun a b => decide (a < b))) := OpR.or op_lt op_lt_str
theorem o_le : OpR X (compareOp .LtE) (rCm (fun i j => decide (i ≤ j)) (fun a b => !decide (b < a))) := OpR.or op_le op_le_str
theorem o_gt : OpR X (compareOp .Gt) (rCm (fun i j => decide (j < i)) (fun a b => decide (b < a))) := OpR.or op_gt op_gt_str
theorem o_ge : OpR X (compareOp .GtE) (rCm (fun i j => decide (j ≤ i)) (fun a b => !decide (a < b))) := OpR.or op_ge op_ge_str
end
/-- is None -/
def cIsN : D → D → Option Bool := fun x y => match y with
  | .non => match x with
    | .non => some true
    | _ => some false
  | _ => none
def cNotN : D → D → Option Bool := fun x y => match cIsN x y with
  | some b => some (!b)
  | none => none
theorem RBq.isN {κ : Kx} {H G : Hp} {v : V} {d : D} (r : RBq κ H G v d) : decide (v = .non) = (match d with | .non => true | _ => false) := by
  rcases r with r | ⟨a, xs, l, rfl, rfl, _⟩
  · cases r <;> simp
  · simp
theorem s_isN {κ : Kx} : OpB κ (fun x y H Q => y = .non ∧ Q (.bl (decide (x = .non))) H) cIsN := fun x y dx dy z H G Q e s rx ry q => by
  cases dy <;> try (cases e; done)
  refine ⟨ry.non, ?_⟩
  rw [rx.isN]
  cases dx <;> (cases e; exact q)
/-- in: a sign in a text, a flat value in a list or a tuple -/
def D.fl : D → Bool
  | .non => true
  | .bl _ => true
  | .int _ => true
  | .str _ => true
  | _ => false
def D.feq : D → D → Bool
  | .non, .non => true
  | .bl a, .bl b => a == b
  | .bl a, .int b => (if a then 1 else 0) == b
  | .int a, .bl b => a == (if b then 1 else 0)
  | .int a, .int b => a == b
  | .str a, .str b => a == b
  | _, _ => false
def cIn : D → D → Option Bool
  | .str [c], .str w => some (decide (c ∈ w))
  | x, .lst l => if x.fl = true ∧ l.all D.fl = true then some (l.any fun y => y.feq x) else none
  | x, .tup l => if x.fl = true ∧ l.all D.fl = true then some (l.any fun y => y.feq x) else none
  | _, _ => none
def cNin : D → D → Option Bool := fun x y => match cIn x y with
  | some b => some (!b)
  | none => none
theorem Rp.flat {κ : Kx} {G : Hp} {v : V} {d : D} (r : Rp κ G v d) : flatV v = d.fl := by
  cases r <;> rfl
theorem Rp.feq {κ : Kx} {G : Hp} {v u : V} {d e : D} (r : Rp κ G v d) (q : Rp κ G u e) : eqV v u = d.feq e := by
  cases r <;> cases q <;> first
    | rfl
    | (rename_i a b
       show (S a == S b) = (a == b)
       rw [Bool.eq_iff_iff]
       simp only [beq_iff_eq]
       exact ⟨S_inj, fun z => by rw [z]⟩)
theorem RpA.fl {κ : Kx} {G : Hp} : ∀ {vs : List V} {ds : List D}, RpA κ G vs ds → vs.all flatV = ds.all D.fl
  | _, _, .nil => rfl
  | _, _, .cons r t => by rw [List.all_cons, List.all_cons, r.flat, RpA.fl t]
theorem RpA.any {κ : Kx} {G : Hp} {x : V} {dx : D} (rx : Rp κ G x dx) : ∀ {vs : List V} {ds : List D}, RpA κ G vs ds → inV x vs = ds.any fun y => y.feq dx
  | _, _, .nil => rfl
  | _, _, .cons r t => by
    have ih := RpA.any rx t
    unfold inV at ih ⊢
    rw [List.any_cons, List.any_cons, r.feq rx, ih]
def rInA (κ : Kx) (neg : Bool) : R2 := fun x y H Q => (∃ (c : Nat) (z : Str), x = .str ⟨#[c]⟩ ∧ y = .str z ∧ Q (.bl (if neg then !decide (c ∈ z.cps.toList) else decide (c ∈ z.cps.toList))) H) ∨ rIn κ.K neg x y H Q
theorem o_in {X : Cx} {κ : Kx} (hK : X.K = κ.K) : OpR X (compareOp .In) (rInA κ false) := by
  unfold rInA
  rw [← hK]
  exact OpR.or op_in_sign op_in_seq
theorem o_nin {X : Cx} {κ : Kx} (hK : X.K = κ.K) : OpR X (compareOp .NotIn) (rInA κ true) := by
  unfold rInA
  rw [← hK]
  exact OpR.or op_notIn_sign op_notIn_seq
theorem RBq.rp {κ : Kx} {H G : Hp} {v : V} {d : D} (r : RBq κ H G v d) (f : d.fl = true) : Rp κ G v d := by
  rcases r with r | ⟨a, xs, l, rfl, rfl, _⟩
  · exact r
  · cases f
theorem inA {κ : Kx} {neg : Bool} {x y : V} {dx dy : D} {z : Bool} {H G : Hp} {Q : VK} (e : cIn dx dy = some z) (s : Same G H) (rx : RBq κ H G x dx) (ry : RBq κ H G y dy) (q : Q (.bl (if neg then !z else z)) H) : rInA κ neg x y H Q := by
  cases dy with
  | str w =>
    cases dx with
    | str a =>
      cases a with
      | nil => cases e
      | cons c r =>
        cases r with
        | nil =>
          cases e
          exact .inl ⟨c, S w, rx.str, ry.str, q⟩
        | cons => cases e
    | _ => cases e
  | lst l =>
    have e' : (if dx.fl = true ∧ l.all D.fl = true then some (l.any fun y => y.feq dx) else none) = some z := by
      cases dx with
      | str a => cases a with
        | nil => exact e
        | cons c r => cases r <;> exact e
      | _ => exact e
    by_cases h : dx.fl = true ∧ l.all D.fl = true
    · rw [if_pos h] at e'
      cases e'
      obtain ⟨a, xs, rfl, h1, h2⟩ := ry.lst s
      have rx' := rx.rp h.1
      refine .inr ⟨a, xs, rfl, .inl (SqL.of h1), by rw [rx'.flat]; exact h.1, by rw [h2.fl]; exact h.2, ?_⟩
      rw [h2.any rx']
      exact q
    · rw [if_neg h] at e'; cases e'
  | tup l =>
    have e' : (if dx.fl = true ∧ l.all D.fl = true then some (l.any fun y => y.feq dx) else none) = some z := by
      cases dx with
      | str a => cases a with
        | nil => exact e
        | cons c r => cases r <;> exact e
      | _ => exact e
    by_cases h : dx.fl = true ∧ l.all D.fl = true
    · rw [if_pos h] at e'
      cases e'
      obtain ⟨a, xs, rfl, h1, h2⟩ := ry.tup s
      have rx' := rx.rp h.1
      refine .inr ⟨a, xs, rfl, .inr (SqT.of h1), by rw [rx'.flat]; exact h.1, by rw [h2.fl]; exact h.2, ?_⟩
      rw [h2.any rx']
      exact q
    · rw [if_neg h] at e'; cases e'
  | _ =>
    cases dx with
    | str a => cases a with
      | nil => cases e
      | cons c r => cases r <;> cases e
    | _ => cases e
theorem s_in {κ : Kx} : OpB κ (rInA κ false) cIn := fun x y dx dy z H G Q e s rx ry q => inA e s rx ry (by simpa using q)
theorem s_nin {κ : Kx} : OpB κ (rInA κ true) cNin := fun x y dx dy z H G Q e s rx ry q => by
  unfold cNin at e
  cases h : cIn dx dy with
  | none => rw [h] at e; cases e
  | some b =>
    rw [h] at e
    cases e
    exact inA h s rx ry (by simpa using q)

/-! ### places, slices, lengths, displays -/
theorem atI_rp {κ : Kx} {G : Hp} {xs : List V} {l : List D} {i : Int} {d : D} (h : RpA κ G xs l) (e : atI l i = some d) : ∃ v, atI xs i = some v ∧ Rp κ G v d := by
  unfold atI at e ⊢
  rw [h.length]
  cases z : ixN l.length i with
  | none => rw [z] at e; cases e
  | some j =>
    rw [z] at e
    exact h.getD e
def opIx : D → D → Option D
  | .lst l, .int i => atI l i
  | .tup l, .int i => atI l i
  | .scr l, .int i => match atI l i with
    | some n => some (.int n)
    | none => none
  | .str w, .int i => if w.length ≤ szl then (match atI w i with
    | some c => some (.str [c])
    | none => none) else none
  | _, _ => none
theorem atI_map {α β : Type} (f : α → β) (l : List α) (i : Int) : atI (l.map f) i = (atI l i).map f := by
  unfold atI
  rw [List.length_map]
  cases ixN l.length i with
  | none => rfl
  | some j => simp
section
variable {X : Cx} {κ : Kx} {W : WX} {a b c : Expr} {ma mb mc : Sm D} {pos p2 : Pos}
theorem v_ix (hK : X.K = κ.K) (ha : PE X a (tX κ W (RB κ) ma)) (hb : PE X b (tX κ W (RB κ) mb)) (hs : PlainIx b) : PE X (.Subscript a b pos) (tX κ W (RP κ) (fOp opIx ma mb)) :=
  PE.imp (pe_ix (r := rIx κ.K) (by rw [← hK]; exact ix_seq) ha hb hs) fun σ H Q h => op_tr (fun x y dx dy z H G env e r rx ry q => by
    cases dx with
    | lst l =>
      cases dy <;> try (cases e; done)
      obtain ⟨p, xs, rfl, h1, h2⟩ := rx.lst r.sub
      obtain ⟨v, h3, h4⟩ := atI_rp h2 e
      exact .inl ⟨_, _, _, _, rfl, ry.int, SqL.of h1, h3, q v H G r h4 (Grw.refl _) Fr.refl⟩
    | tup l =>
      cases dy <;> try (cases e; done)
      obtain ⟨p, xs, rfl, h1, h2⟩ := rx.tup r.sub
      obtain ⟨v, h3, h4⟩ := atI_rp h2 e
      exact .inr (.inl ⟨_, _, _, _, rfl, ry.int, SqT.of h1, h3, q v H G r h4 (Grw.refl _) Fr.refl⟩)
    | scr l =>
      cases dy <;> try (cases e; done)
      rename_i i
      obtain ⟨p, rfl, h1⟩ := rx.scr r.sub
      dsimp only [opIx] at e
      cases w : atI l i with
      | none => rw [w] at e; cases e
      | some n =>
        rw [w] at e
        cases e
        exact .inl ⟨_, _, _, _, rfl, ry.int, h1, by rw [atI_map, w]; rfl, q _ H G r (.int n) (Grw.refl _) Fr.refl⟩
    | str t =>
      cases dy <;> try (cases e; done)
      rename_i i
      dsimp only [opIx] at e
      by_cases hl : t.length ≤ szl
      · rw [if_pos hl] at e
        cases w : atI t i with
        | none => rw [w] at e; cases e
        | some c =>
          rw [w] at e
          cases e
          exact .inr (.inr ⟨S t, i, c, rx.str, ry.int, by rw [S_len]; exact szl_le hl, w, q _ H G r (.str [c]) (Grw.refl _) Fr.refl⟩)
      · rw [if_neg hl] at e; cases e
    | _ => cases dy <;> cases e) h
/-- a part of a slice -/
def ROi : Rl (Option Int) (Option Int) := fun _ _ _ _ _ o p => o = p
instance : RlMono ROi := ⟨fun _ q => q⟩
def poN : Sm (Option Int) := fun e => some (.ok none e)
def poS (m : Sm D) : Sm (Option Int) := bnd m fun d e => match d with
  | .int i => some (.ok (some i) e)
  | _ => none
theorem po_imp {e : Option Expr} {t t' : TO} (h : PO X e t) (k : ∀ σ H Q, t' σ H Q → t σ H Q) : PO X e t' := ⟨fun pins s σ H Q I q => h.run pins s σ H Q I (k σ H Q q)⟩
theorem o_none : PO X none (tX κ W ROi poN) := po_imp po_none fun σ H Q ⟨G, env, r, q⟩ => q none H G r rfl (Grw.refl _) Fr.refl
theorem o_some (h : PE X a (tX κ W (RB κ) ma)) : PO X (some a) (tX κ W ROi (poS ma)) := po_imp (po_some h) fun σ H Q ⟨G, env, r, q⟩ =>
  bind_post r q fun d e1 v H1 G1 _ r1 rv s1 f1 q1 => by
    cases d <;> try (cases q1; done)
    exact ⟨_, RBq.int rv, q1 _ H1 G1 r1 rfl (Grw.refl _) Fr.refl⟩
def cutL {α : Type} (l : List α) (lo hi : Option Int) : List α := (l.drop (HT.sIx l.length 0 lo)).take (HT.sIx l.length l.length hi - HT.sIx l.length 0 lo)
def opSl : D → Option Int → Option Int → Option Rs
  | .str w, lo, hi => if w.length ≤ szl then some (.sh (.str (cutL w lo hi))) else none
  | .lst l, lo, hi => some (.ow (cutL l lo hi))
  | .scr l, lo, hi => some (.ow ((cutL l lo hi).map D.int))
  | .tup l, lo, hi => if HT.sIx l.length 0 lo = 0 ∧ HT.sIx l.length l.length hi = l.length then none else some (.sh (.tup (cutL l lo hi)))
  | _, _, _ => none
def fSl (m : Sm D) (lo hi : Sm (Option Int)) : Sm Rs := bnd m fun d => bnd lo fun i => bnd hi fun j e => match opSl d i j with
  | some z => some (.ok z e)
  | none => none
theorem v_sl {lo hi : Option Expr} {ml mh : Sm (Option Int)} (hK : X.K = κ.K) (ha : PE X a (tX κ W (RB κ) ma)) (hl : PO X lo (tX κ W ROi ml)) (hh : PO X hi (tX κ W ROi mh)) :
    PE X (.Subscript a (.Slice lo hi none p2) pos) (tX κ W (RV κ) (fSl ma ml mh)) :=
  PE.imp (pe_slice (r := fun x lo hi H Q => rSlS x lo hi H Q ∨ rSlL κ.K x lo hi H Q ∨ rSlT κ.K x lo hi H Q) (by rw [← hK]; exact SlR.or sl_str (SlR.or sl_list sl_tup)) ha hl hh) fun σ H Q ⟨G, env, r, q⟩ => by
    refine bind_post r q fun d e1 x H1 G1 _ r1 rx s1 f1 q1 => ?_
    refine bind_post r1 q1 fun i e2 i' H2 G2 _ r2 ri s2 f2 q2 => ?_
    refine bind_post r2 q2 fun j e3 j' H3 G3 _ r3 rj s3 f3 q3 => ?_
    cases ri
    cases rj
    have rx3 := RBq.mono (s2.trans s3) (f2.gk.trans f3.gk) rx
    cases d with
    | str w =>
      dsimp only [opSl] at q3
      by_cases h : w.length ≤ szl
      · rw [if_pos h] at q3
        exact .inl ⟨S w, rx3.str, by rw [S_len]; exact szl_le h, post_sh r3 (show Rp κ G3 (.str (cutS (S w) i j)) (.str (cutL w i j)) by
          have e : cutS (S w) i j = S (cutL w i j) := by
            unfold cutS cutL S
            rfl
          rw [e]; exact .str _) q3⟩
      · rw [if_neg h] at q3; exact q3.elim
    | lst l =>
      obtain ⟨p, xs, rfl, h1, h2⟩ := rx3.lst r3.sub
      refine .inr (.inl ⟨p, xs, rfl, SqL.of h1, fun p' hp => ?_⟩)
      have e : RpA κ G3 (cutV xs i j) (cutL l i j) := by
        unfold cutV cutL
        rw [h2.length]
        exact (h2.drop _).take _
      exact post_ow r3 hp e q3
    | scr l =>
      obtain ⟨p, rfl, h1⟩ := rx3.scr r3.sub
      refine .inr (.inl ⟨p, _, rfl, h1, fun p' hp => ?_⟩)
      have e : RpA κ G3 (cutV (l.map V.int) i j) ((cutL l i j).map D.int) := by
        have e2 : cutV (l.map V.int) i j = (cutL l i j).map V.int := by
          unfold cutV cutL
          rw [List.length_map, List.map_take, List.map_drop]
        rw [e2]
        exact RpA.ints _
      exact post_ow r3 hp e q3
    | tup l =>
      dsimp only [opSl] at q3
      by_cases h : HT.sIx l.length 0 i = 0 ∧ HT.sIx l.length l.length j = l.length
      · rw [if_pos h] at q3; exact q3.elim
      · rw [if_neg h] at q3
        obtain ⟨p, xs, rfl, h1, h2⟩ := rx3.tup r3.sub
        refine .inr (.inr ⟨p, xs, rfl, SqT.of h1, by rw [h2.length]; exact h, fun p' hp => ?_⟩)
        have e : RpA κ G3 (cutV xs i j) (cutL l i j) := by
          unfold cutV cutL
          rw [h2.length]
          exact (h2.drop _).take _
        exact post_tup r3 hp e q3
    | _ => exact q3.elim
end
/-! ### arguments -/
def aNil : Sm (List D) := fun e => some (.ok [] e)
def aCons (m : Sm D) (ms : Sm (List D)) : Sm (List D) := bnd m fun d => bnd ms fun ds e => some (.ok (d :: ds) e)
theorem RBs.mono {κ : Kx} {H G H' G' : Hp} (h : Grw H H') (g : Same G G') : ∀ {ms : List Bool} {vs : List V} {ds : List D}, RBs κ H G ms vs ds → RBs κ H' G' ms vs ds
  | _, _, _, .nil => .nil
  | _, _, _, .sh r t => .sh (r.mono g) (RBs.mono h g t)
  | _, _, _, .bo r t => .bo (RBq.mono h g r) (RBs.mono h g t)
section
variable {X : Cx} {κ : Kx} {W : WX} {a b c : Expr} {ma mb mc : Sm D} {es : List Expr} {ms : List Bool} {mr : Sm (List D)} {pos p2 : Pos}
theorem a_nil : PA X [] (tX κ W (RA κ []) aNil) := PA.imp pa_nil fun σ H Q ⟨G, env, r, q⟩ => q [] H G r .nil (Grw.refl _) Fr.refl
theorem a_bo (ha : PE X a (tX κ W (RB κ) ma)) (hr : PA X es (tX κ W (RA κ ms) mr)) (hs : starEach (a :: es) X.env = (false, eval a X.env) :: starEach es X.env := by rfl) : PA X (a :: es) (tX κ W (RA κ (true :: ms)) (aCons ma mr)) :=
  PA.imp (pa_cons ha hr hs) fun σ H Q ⟨G, env, r, q⟩ => by
    refine bind_post r q fun d e1 x H1 G1 _ r1 rx s1 f1 q1 => ?_
    refine bind_post r1 q1 fun ds e2 vs H2 G2 _ r2 rs s2 f2 q2 => ?_
    exact q2 (x :: vs) H2 G2 r2 (.bo (RBq.mono s2 f2.gk rx) rs) (Grw.refl _) Fr.refl
theorem a_sh (ha : PE X a (tX κ W (RP κ) ma)) (hr : PA X es (tX κ W (RA κ ms) mr)) (hs : starEach (a :: es) X.env = (false, eval a X.env) :: starEach es X.env := by rfl) : PA X (a :: es) (tX κ W (RA κ (false :: ms)) (aCons ma mr)) :=
  PA.imp (pa_cons ha hr hs) fun σ H Q ⟨G, env, r, q⟩ => by
    refine bind_post r q fun d e1 x H1 G1 _ r1 rx s1 f1 q1 => ?_
    refine bind_post r1 q1 fun ds e2 vs H2 G2 _ r2 rs s2 f2 q2 => ?_
    exact q2 (x :: vs) H2 G2 r2 (.sh (Rp.mono f2.gk rx) rs) (Grw.refl _) Fr.refl
/-- all given away -/
def allSh : List Bool → Bool
  | [] => true
  | b :: r => !b && allSh r
theorem RBs.all : ∀ {ms : List Bool} {vs : List V} {ds : List D} {H G : Hp}, allSh ms = true → RBs κ H G ms vs ds → RpA κ G vs ds
  | _, _, _, _, _, _, .nil => .nil
  | _, _, _, _, _, h, .sh r t => .cons r (RBs.all (by simpa [allSh] using h) t)
  | _, _, _, _, _, h, .bo r t => by simp [allSh] at h
def fLst (m : Sm (List D)) : Sm Rs := bnd m fun l e => if l.length ≤ szl then some (.ok (.ow l) e) else none
def fTup (m : Sm (List D)) : Sm D := bnd m fun l e => if l.length ≤ szl then some (.ok (.tup l) e) else none
theorem v_lst (hm : allSh ms = true) (h : PA X es (tX κ W (RA κ ms) mr)) : PE X (.List es pos) (tX κ W (RV κ) (fLst mr)) := PE.imp (pe_lst h) fun σ H Q ⟨G, env, r, q⟩ => by
  refine bind_post r q fun l e1 vs H1 G1 _ r1 rx s1 f1 q1 => ?_
  by_cases hl : l.length ≤ szl
  · rw [if_pos hl] at q1
    have ra := RBs.all hm rx
    exact ⟨by rw [ra.length]; exact szl_le hl, fun p hp => post_ow r1 hp ra q1⟩
  · rw [if_neg hl] at q1; exact q1.elim
theorem v_tup {x1 : Nat} (hm : allSh ms = true) (h : PA X es (tX κ W (RA κ ms) mr)) : PE X (.Tuple es x1 pos) (tX κ W (RP κ) (fTup mr)) := PE.imp (pe_tup h) fun σ H Q ⟨G, env, r, q⟩ => by
  refine bind_post r q fun l e1 vs H1 G1 _ r1 rx s1 f1 q1 => ?_
  by_cases hl : l.length ≤ szl
  · rw [if_pos hl] at q1
    have ra := RBs.all hm rx
    refine ⟨by rw [ra.length]; exact szl_le hl, fun p hp => ?_⟩
    have s := new_sh (o := .tup vs) r1 hp
    exact q1 _ _ _ s.rep (.tup upd_same (ra.mono (same_new (Same.none r1.sub hp)))) s.same s.fr
  · rw [if_neg hl] at q1; exact q1.elim
/-! ### built-ins by name -/
/-- a call on values serves its function -/
def ClV (κ : Kx) (ms : List Bool) (r : List V → Hp → VK → Prop) (f : List D → Option Rs) : Prop := ∀ (W : WX) (σ : L2.St) (vs : List V) (ds : List D) (z : Rs) (H : Hp) (G : Gh) (env : En) (Q : VK), f ds = some z → Rep κ H G σ env → RBs κ H G ms vs ds → EPost κ W (RV κ) σ H G env (some (.ok z env)) Q → r vs H Q
def fCl (f : List D → Option Rs) (m : Sm (List D)) : Sm Rs := bnd m fun ds e => match f ds with
  | some z => some (.ok z e)
  | none => none
theorem cl_tr {r : List V → Hp → VK → Prop} {f : List D → Option Rs} (hs : ClV κ ms r f) {σ : L2.St} {H : Hp} {Q : VK} (h : tX κ W (RV κ) (fCl f mr) σ H Q) : tCB r (tX κ W (RA κ ms) mr) σ H Q := by
  obtain ⟨G, env, rp, q⟩ := h
  refine bind_post rp q fun ds e1 vs H1 G1 _ r1 rx s1 f1 q1 => ?_
  cases z : f ds with
  | none => rw [z] at q1; exact q1.elim
  | some w => rw [z] at q1; exact hs W σ vs ds w H1 G1 e1 Q z r1 rx q1
theorem v_callB {r : List V → Hp → VK → Prop} {f : List D → Option Rs} {id : String} {x : Str} {p : Pos} (hc : CallR X (.builtin id) r) (hs : ClV κ ms r f) (hg : Gl X x) (hm : X.mg x = none) (hv : bootBuiltins x = some (.builtin id)) (ha : PA X (a :: es) (tX κ W (RA κ ms) mr))
    (hn : x ≠ "__name__" := by decide) (hdb : (x == ("__debug__" : Str)) = false := by decide) (he : starEach (a :: es) X.env = (false, eval a X.env) :: starEach es X.env := by rfl) (hpl : (backTo pos (starEach es X.env)).any (·.1) = false := by rfl) :
    PE X (.Call (.Name x p) (a :: es) [] pos) (tX κ W (RV κ) (fCl f mr)) := PE.imp (pe_callB hc hg hm hv ha hn hdb he hpl) fun σ H Q h => cl_tr hs h
theorem v_callTy {r : List V → Hp → VK → Prop} {f : List D → Option Rs} {T : String} {x : Str} {p : Pos} (hc : CallR X (.type T) r) (hs : ClV κ ms r f) (hg : Gl X x) (hm : X.mg x = none) (hv : bootBuiltins x = some (.type T)) (ha : PA X (a :: es) (tX κ W (RA κ ms) mr))
    (hn : x ≠ "__name__" := by decide) (hdb : (x == ("__debug__" : Str)) = false := by decide) (he : starEach (a :: es) X.env = (false, eval a X.env) :: starEach es X.env := by rfl) (hpl : (backTo pos (starEach es X.env)).any (·.1) = false := by rfl) :
    PE X (.Call (.Name x p) (a :: es) [] pos) (tX κ W (RV κ) (fCl f mr)) := PE.imp (pe_callTy hc hg hm hv ha hn hdb he hpl) fun σ H Q h => cl_tr hs h
end
theorem RBs.one {κ : Kx} {H G : Hp} {vs : List V} {d : D} (r : RBs κ H G [true] vs [d]) : ∃ v, vs = [v] ∧ RBq κ H G v d := by
  cases r with
  | bo r t => cases t; exact ⟨_, rfl, r⟩
theorem RBs.two {κ : Kx} {H G : Hp} {vs : List V} {d e : D} (r : RBs κ H G [true, true] vs [d, e]) : ∃ v u, vs = [v, u] ∧ RBq κ H G v d ∧ RBq κ H G u e := by
  cases r with
  | bo r t =>
    cases t with
    | bo r2 t2 => cases t2; exact ⟨_, _, rfl, r, r2⟩
def lenD : D → Option Nat
  | .str w => if w.length ≤ szl then some w.length else none
  | .lst l => some l.length
  | .tup l => some l.length
  | .scr l => some l.length
  | _ => none
def opLen : List D → Option Rs
  | [d] => match lenD d with
    | some n => some (.sh (.int n))
    | none => none
  | _ => none
theorem s_len {κ : Kx} : ClV κ [true] (fun xs H Q => ∃ x n, xs = [x] ∧ LenV κ.K x H n ∧ Q (.int n) H) opLen := fun W σ vs ds z H G env Q e r rx q => by
  cases ds with
  | nil => cases e
  | cons d t =>
    cases t with
    | cons _ _ => cases e
    | nil =>
      obtain ⟨v, rfl, rv⟩ := RBs.one rx
      dsimp only [opLen] at e
      cases w : lenD d with
      | none => rw [w] at e; cases e
      | some n =>
        rw [w] at e
        cases e
        refine ⟨v, n, rfl, ?_, post_sh r (.int _) q⟩
        cases d <;> try (cases w; done)
        · rename_i t
          dsimp only [lenD] at w
          by_cases h : t.length ≤ szl
          · rw [if_pos h] at w
            cases w
            rw [rv.str]
            exact ⟨by rw [S_len]; exact szl_le h, (S_len _).symm⟩
          · rw [if_neg h] at w; cases w
        · cases w
          obtain ⟨p, xs, rfl, h1, h2⟩ := rv.lst r.sub
          exact .inl ⟨xs, SqL.of h1, h2.length.symm⟩
        · cases w
          obtain ⟨p, xs, rfl, h1, h2⟩ := rv.tup r.sub
          exact .inr ⟨xs, SqT.of h1, h2.length.symm⟩
        · cases w
          obtain ⟨p, rfl, h1⟩ := rv.scr r.sub
          exact .inl ⟨_, h1, by rw [List.length_map]⟩
def opList : List D → Option Rs
  | [.lst l] => some (.ow l)
  | [.tup l] => some (.ow l)
  | [.scr l] => some (.ow (l.map D.int))
  | _ => none
theorem s_list {κ : Kx} : ClV κ [true] (fun xs H Q => ∃ p ys, xs = [.ref p] ∧ (SqL κ.K H p ys ∨ SqT κ.K H p ys) ∧ ∀ l, H l = none → Q (.ref l) (upd H l (.lst ys))) opList := fun W σ vs ds z H G env Q e r rx q => by
  cases ds with
  | nil => cases e
  | cons d t =>
    cases t with
    | cons _ _ => cases d <;> cases e
    | nil =>
      obtain ⟨v, rfl, rv⟩ := RBs.one rx
      cases d <;> try (cases e; done)
      · cases e
        obtain ⟨p, xs, rfl, h1, h2⟩ := rv.lst r.sub
        exact ⟨p, xs, rfl, .inl (SqL.of h1), fun l hl => post_ow r hl h2 q⟩
      · cases e
        obtain ⟨p, xs, rfl, h1, h2⟩ := rv.tup r.sub
        exact ⟨p, xs, rfl, .inr (SqT.of h1), fun l hl => post_ow r hl h2 q⟩
      · cases e
        obtain ⟨p, rfl, h1⟩ := rv.scr r.sub
        exact ⟨p, _, rfl, .inl h1, fun l hl => post_ow r hl (RpA.ints _) q⟩
def opMin : List D → Option Rs
  | [.int i, .int j] => some (.sh (.int (if j < i then j else i)))
  | _ => none
def opMax : List D → Option Rs
  | [.int i, .int j] => some (.sh (.int (if j > i then j else i)))
  | _ => none
def opStr : List D → Option Rs
  | [.int i] => if i.natAbs.log2 < 1920 then some (.sh (.str (toString i : Str).cps.toList)) else none
  | _ => none
theorem s_str {κ : Kx} : ClV κ [true] (fun xs H Q => ∃ i, xs = [.int i] ∧ i.natAbs.log2 < 1920 ∧ Q (.str (toString i)) H) opStr := fun W σ vs ds z H G env Q e r rx q => by
  cases ds with
  | nil => cases e
  | cons d t =>
    cases t with
    | cons _ _ => cases d <;> cases e
    | nil =>
      obtain ⟨v, rfl, rv⟩ := RBs.one rx
      cases d <;> try (cases e; done)
      rename_i i
      dsimp only [opStr] at e
      by_cases h : i.natAbs.log2 < 1920
      · rw [if_pos h] at e
        cases e
        refine ⟨i, by rw [rv.int], h, post_sh r ?_ q⟩
        have := Rp.str (κ := κ) (G := G) (toString i : Str).cps.toList
        rw [S_list] at this
        exact this
      · rw [if_neg h] at e; cases e
def allInts : List D → Option (List Int)
  | [] => some []
  | .int i :: r => match allInts r with
    | some l => some (i :: l)
    | none => none
  | _ :: _ => none
def opSum : List D → Option Rs
  | [.lst l] => match allInts l with
    | some ns => some (.sh (.int ns.sum))
    | none => none
  | _ => none
/-! ### tests -/
def truD : D → Option Bool
  | .non => some false
  | .bl b => some b
  | .int i => some (i != 0)
  | .str w => if w.length ≤ szl then some (!w.isEmpty) else none
  | .lst l => some (!l.isEmpty)
  | .tup l => some (!l.isEmpty)
  | _ => none
def fTru (m : Sm D) : Sm Bool := bnd m fun d e => match truD d with
  | some b => some (.ok b e)
  | none => none
theorem RpA.emp {κ : Kx} {G : Hp} {xs : List V} {l : List D} (h : RpA κ G xs l) : xs.isEmpty = l.isEmpty := by cases h <;> rfl
theorem tru_of {κ : Kx} {H G : Hp} {v : V} {d : D} {b : Bool} (s : Same G H) (r : RBq κ H G v d) (e : truD d = some b) : TruV κ.K v H b := by
  cases d with
  | non => cases e; rw [r.non]; rfl
  | bl c => cases e; rw [r.bl]; rfl
  | int i => cases e; rw [r.int]; rfl
  | str w =>
    dsimp only [truD] at e
    by_cases h : w.length ≤ szl
    · rw [if_pos h] at e
      cases e
      rw [r.str]
      refine ⟨by rw [S_len]; exact szl_le h, ?_⟩
      rw [S_len]
      cases w <;> simp
      omega
    · rw [if_neg h] at e; cases e
  | lst l =>
    cases e
    obtain ⟨a, xs, rfl, h1, h2⟩ := r.lst s
    exact .inl ⟨xs, SqL.of h1, by rw [h2.emp]⟩
  | tup l =>
    cases e
    obtain ⟨a, xs, rfl, h1, h2⟩ := r.tup s
    exact .inr (.inl ⟨xs, SqT.of h1, by rw [h2.emp]⟩)
  | ob c l => cases e
  | scr l => cases e
  | xn o x => cases e
def fNot (m : Sm Bool) : Sm Bool := bnd m fun b e => some (.ok (!b) e)
def fAnd (m n : Sm Bool) : Sm Bool := bnd m fun b e => match b with
  | true => n e
  | false => some (.ok false e)
def fOr (m n : Sm Bool) : Sm Bool := bnd m fun b e => match b with
  | true => some (.ok true e)
  | false => n e
def fIf {α : Type} (t : Sm Bool) (m n : Sm α) : Sm α := bnd t fun b e => match b with
  | true => m e
  | false => n e
def fBl (m : Sm D) : Sm Bool := bnd m fun d e => match d with
  | .bl b => some (.ok b e)
  | _ => none
def fNotV (m : Sm D) : Sm D := bnd m fun d e => match d with
  | .bl b => some (.ok (.bl (!b)) e)
  | _ => none
def fAndV (m n : Sm D) : Sm D := bnd m fun d e => match d with
  | .bl true => n e
  | .bl false => some (.ok (.bl false) e)
  | _ => none
def fOrV (m n : Sm D) : Sm D := bnd m fun d e => match d with
  | .bl true => some (.ok (.bl true) e)
  | .bl false => n e
  | _ => none
section
variable {X : Cx} {κ : Kx} {W : WX} {a b c : Expr} {ma mb mc : Sm D} {mt mu : Sm Bool} {rest : List Expr} {pos : Pos}
theorem t_tru (hK : X.K = κ.K) (ha : PE X a (tX κ W (RB κ) ma)) (he : ∀ whole, isTrue a X.env whole = (do let v ← whole; standAt a.pos; holding [v] (truthy v)) := by intro _; rfl) : PT X a (tX κ W RT (fTru ma)) :=
  PT.imp (pt_truth ha he) fun σ H Q ⟨G, env, r, q⟩ => bind_post r q fun d e1 v H1 G1 em r1 rv s1 f1 q1 => by
    cases w : truD d with
    | none => rw [w] at q1; exact q1.elim
    | some b =>
      rw [w] at q1
      exact ⟨b, by rw [hK]; exact tru_of r1.sub rv w, post_tt r1 q1⟩
theorem t_not (ha : PT X a (tX κ W RT mt)) : PT X (.UnaryOp .Not a pos) (tX κ W RT (fNot mt)) := PT.imp (pt_not ha) fun σ H Q ⟨G, env, r, q⟩ => bind_post r q fun d e1 v H1 G1 em r1 rv s1 f1 q1 => by
  cases rv
  exact post_tt r1 q1
theorem w_and1 (ha : PT X a (tX κ W RT mt)) : PW X (.BoolOp .And [a] pos) (tX κ W RT mt) := pw_and1 ha
theorem w_or1 (ha : PT X a (tX κ W RT mt)) : PW X (.BoolOp .Or [a] pos) (tX κ W RT mt) := pw_or1 ha
theorem w_and (ha : PT X a (tX κ W RT mt)) (hb : PW X (.BoolOp .And (b :: rest) pos) (tX κ W RT mu)) : PW X (.BoolOp .And (a :: b :: rest) pos) (tX κ W RT (fAnd mt mu)) := PW.imp (pw_and ha hb) fun σ H Q ⟨G, env, r, q⟩ => bind_post r q fun d e1 v H1 G1 em r1 rv s1 f1 q1 => by
  cases rv
  cases d with
  | true => exact ⟨G1, e1, r1, q1⟩
  | false => exact post_tt r1 q1
theorem w_or (ha : PT X a (tX κ W RT mt)) (hb : PW X (.BoolOp .Or (b :: rest) pos) (tX κ W RT mu)) : PW X (.BoolOp .Or (a :: b :: rest) pos) (tX κ W RT (fOr mt mu)) := PW.imp (pw_or ha hb) fun σ H Q ⟨G, env, r, q⟩ => bind_post r q fun d e1 v H1 G1 em r1 rv s1 f1 q1 => by
  cases rv
  cases d with
  | false => exact ⟨G1, e1, r1, q1⟩
  | true => exact post_tt r1 q1
theorem v_if (ht : PT X c (tX κ W RT mt)) (ha : PE X a (tX κ W (RP κ) ma)) (hb : PE X b (tX κ W (RP κ) mb)) : PE X (.IfExp c a b pos) (tX κ W (RP κ) (fIf mt ma mb)) := PE.imp (pe_ifExp ht ha hb) fun σ H Q ⟨G, env, r, q⟩ => bind_post r q fun d e1 v H1 G1 em r1 rv s1 f1 q1 => by
  cases rv
  cases d with
  | true => exact ⟨G1, e1, r1, q1⟩
  | false => exact ⟨G1, e1, r1, q1⟩
def fNeg (m : Sm D) : Sm D := bnd m fun d e => match d with
  | .int i => some (.ok (.int (-i)) e)
  | _ => none
theorem v_neg (ha : PE X a (tX κ W (RP κ) ma)) : PE X (.UnaryOp .USub a pos) (tX κ W (RP κ) (fNeg ma)) := PE.imp (pe_un un_neg ha) fun σ H Q ⟨G, env, r, q⟩ => bind_post r q fun d e1 v H1 G1 em r1 rv s1 f1 q1 => by
  cases d <;> try (cases q1; done)
  cases rv
  exact ⟨_, rfl, q1 _ H1 G1 r1 (.int _) (Grw.refl _) Fr.refl⟩
theorem t_chain {op op' : CmpOp} {r r' : R2} {f g : D → D → Option Bool} (ho : OpR X (compareOp op) r) (hs : OpB κ r f) (ho' : OpR X (compareOp op') r') (hs' : OpB κ r' g) (ha : PE X a (tX κ W (RB κ) ma)) (hb : PE X b (tX κ W (RB κ) mb)) (hc : PE X c (tX κ W (RB κ) mc))
    (hm : lastMarks [op, op'] [b, c] = false := by with_unfolding_all rfl) : PT X (.Compare a [op, op'] [b, c] pos) (tX κ W RT (fCh f g ma mb mc)) := PT.imp (pt_chain ho ho' ha hb hc hm) fun σ H Q ⟨G, env, rp, q⟩ => by
  refine bind_post rp q fun dx e1 x H1 G1 _ rp1 rx s1 f1 q1 => ?_
  refine bind_post rp1 q1 fun dy e2 y H2 G2 _ rp2 ry s2 f2 q2 => ?_
  cases z : f dx dy with
  | none => rw [z] at q2; exact q2.elim
  | some w =>
    rw [z] at q2
    refine hs x y dx dy w H2 G2 _ z rp2.sub (RBq.mono s2 f2.gk rx) ry ⟨w, rfl, ?_⟩
    cases w with
    | false => exact ⟨false, rfl, post_tt rp2 q2⟩
    | true =>
      refine bind_post rp2 q2 fun dz e3 u H3 G3 _ rp3 ru s3 f3 q3 => ?_
      cases z3 : g dy dz with
      | none => rw [z3] at q3; exact q3.elim
      | some k =>
        rw [z3] at q3
        exact hs' y u dy dz k H3 G3 _ z3 rp3.sub (RBq.mono s3 f3.gk ry) ru ⟨k, rfl, post_tt rp3 q3⟩
end
/-! ### slots stored -/
def Rs.sl : Rs → Sl
  | .sh d => .sh d
  | .ow l => .ow l
  | .tr o => .tr o
/-- what is stored at slot i from here on -/
theorem put_all {κ : Kx} {σ : L2.St} {H H0 : Hp} {G G0 : Gh} {env env0 : En} {σ0 : L2.St} {v : V} (r : Rep κ H G σ env) {i : Nat} (hi : i < env.length) {z : Rs} (h : RV κ σ (Nw H0 G0 env0) H G env v z) (f : Fr H0 G0 σ0 env0 H G σ env) :
    ∃ G', Rep κ H G' (σ.set i (some v)) (env.set i z.sl) ∧ Fr H0 G0 σ0 env0 H G' (σ.set i (some v)) (env.set i z.sl) := by
  have e0 : env[i]? = some env[i] := List.getElem?_eq_getElem hi
  have go : ∀ {F : List Addr} {s : Sl}, s.fix = false → RSl κ H G (some (some v)) F s → (∀ a, a ∈ F → Fre G env a ∧ Nw H0 G0 env0 a) →
      ∃ G', Rep κ H G' (σ.set i (some v)) (env.set i s) ∧ Fr H0 G0 σ0 env0 H G' (σ.set i (some v)) (env.set i s) := fun {F s} nf hs hF => by
    have re := r.re (s := s) (F := F) (H' := H) (g' := G.g) (x := some v) hi r.sub (Same.refl _) hs (fun _ _ _ _ _ _ _ h => h) (fun j a w ow => (r.own ow).2) fun a m j t w e => (hF a m).1 j t e
    refine ⟨_, re, f.hk, f.gk, f.gn, fun a o e m => ?_, fun j t q e => ?_⟩
    · obtain ⟨j, t, e1, hm, m⟩ := m
      have m1 : a ∈ (G.put i F).fp j := m
      rcases set_look e1 with ⟨rfl, rfl⟩ | ⟨w, e2⟩
      · rw [put_at] at m1
        exact (hF a m1).2 o e
      · rw [put_ne w] at m1
        exact f.mm a o e ⟨j, t, e2, hm, m1⟩
    · rcases set_look e with ⟨rfl, rfl⟩ | ⟨w, e2⟩
      · rw [nf] at q; cases q
      · obtain ⟨s0, q1, q2, q3, q4⟩ := f.lk j t q e2
        refine ⟨s0, q1, q2, by rw [List.getElem?_set_ne w]; exact q3, fun y1 y2 => ?_⟩
        show (G.put i F).fp j = _
        rw [put_ne w]
        exact q4 y1 y2
  cases z with
  | sh d => exact go (F := []) (s := .sh d) rfl ⟨rfl, v, rfl, h⟩ fun a m => by cases m
  | ow l =>
    obtain ⟨a, xs, rfl, h2, h3, h4, h5, h6⟩ := h
    exact go (F := [a]) (s := .ow l) rfl ⟨_, rfl, .ls h2 h3 h4⟩ fun b m => by rw [List.mem_singleton.mp m]; exact ⟨h5, h6⟩
  | tr o =>
    obtain ⟨F, ro, h⟩ := h
    exact go (F := F) (s := .tr o) rfl ⟨_, rfl, ro⟩ h
/-! ### statements -/
def sNil : Ss := fun e => some (.nx e)
def sSeq (m n : Ss) : Ss := fun e => match m e with
  | some (.nx e1) => n e1
  | o => o
def sDrop (m : Sm Rs) : Ss := sbnd m fun _ e => some (.nx e)
def sAsg (i : Nat) (m : Sm Rs) : Ss := sbnd m fun r e => if i < e.length then some (.nx (e.set i r.sl)) else none
def sRet (m : Sm Rs) : Ss := sbnd m fun r _ => some (.rt r)
/-- .. where a thing was handed in to be changed -/
def sRetI (m : Sm Rs) : Ss := sbnd m fun r e => some (.rv r e)
def sRetV (i : Nat) : Ss := fun e => match e[i]? with
  | some (.sh d) => some (.rt (.sh d))
  | some (.ow l) => some (.rt (.ow l))
  | some (.tr o) => some (.rt (.tr o))
  | _ => none
def sRetN : Ss := fun _ => some (.rt (.sh .non))
def sRetNI : Ss := fun e => some (.rv (.sh .non) e)
def sIf (t : Sm Bool) (m n : Ss) : Ss := sbnd t fun b e => match b with
  | true => m e
  | false => n e
def sBrk : Ss := fun e => some (.bk e)
def sCnt : Ss := fun e => some (.ct e)
section
variable {X : Cx} {κ : Kx} {W : WX} {a b c e : Expr} {st : Stmt} {sts su : List Stmt} {m n : Ss} {mr : Sm Rs} {md : Sm D} {mt : Sm Bool} {pos pos' : Pos}
theorem s_nil : PSs X [] (tS κ W sNil) := PSs.imp pss_nil fun D σ H ⟨G, env, r, q⟩ => q σ H G r Fr.refl
theorem s_cons (h1 : PS X st (tS κ W m)) (h2 : PSs X sts (tS κ W n)) : PSs X (st :: sts) (tS κ W (sSeq m n)) := PSs.imp (pss_cons h1 h2) fun D σ H ⟨G, env, r, q⟩ => by
  refine ⟨G, env, r, ?_⟩
  unfold sSeq at q
  cases z : m env with
  | none => rw [z] at q; exact q
  | some o => cases o with
    | nx e1 =>
      rw [z] at q
      exact fun σ' H' G' r' f => ⟨G', e1, r', SPost.shift f q⟩
    | bk e1 => rw [z] at q; exact q
    | ct e1 => rw [z] at q; exact q
    | rt r1 => rw [z] at q; exact q
    | rv r1 e1 => rw [z] at q; exact q
    | ex x e1 => rw [z] at q; exact q
theorem s_one (h1 : PS X st (tS κ W m)) : PSs X [st] (tS κ W m) := pss_one h1
theorem s_dropI (h : PE X e (tI κ W (RV κ) mr)) (hs : swapsWith e none pos.line X.env = pure false := by rfl) : PS X (.Expr e pos) (tS κ W (sDrop mr)) := PS.imp (ps_expr h hs) fun D σ H ⟨G, env, r, q⟩ => sbind_post r q fun z e1 v H1 G1 _ r1 rv f1 q1 => q1 σ H1 G1 r1 Fr.refl
theorem s_asgI {i : Nat} {x : Str} (hN : X.N.Nodup) (hi : X.N[i]? = some x) (hx : Loc X.env.scope x) (h : PE X e (tI κ W (RV κ) mr)) (hs : swapsWith e (some (.Name x pos')) pos.line X.env = pure false := by rfl)
    (hf : X.fn x = true ∨ X.env.scope.names.lookup x = some .local := by first | exact .inl rfl | exact .inr rfl | assumption) : PS X (.Assign [.Name x pos'] e pos) (tS κ W (sAsg i mr)) := PS.imp (ps_set hN hi hx h hs hf) fun D σ H ⟨G, env, r, q⟩ => by
  refine ⟨G, env, r, ?_⟩
  unfold sAsg sbnd at q
  cases w : mr env with
  | none => rw [w] at q; exact q
  | some o => cases o with
    | ex x e1 =>
      rw [w] at q
      exact fun c d H' G' a b g => q c d σ H' G' a b g
    | ok z e1 =>
      rw [w] at q
      intro v H1 G1 r1 rv f1
      by_cases hl : i < e1.length
      · dsimp only at q
        rw [if_pos hl] at q
        obtain ⟨G2, r2, f2⟩ := put_all r1 hl rv f1
        exact q _ H1 G2 r2 f2
      · dsimp only at q
        rw [if_neg hl] at q; exact q.elim
theorem s_asg {i : Nat} {x : Str} (hN : X.N.Nodup) (hi : X.N[i]? = some x) (hx : Loc X.env.scope x) (h : PE X e (tX κ W (RV κ) mr)) (hs : swapsWith e (some (.Name x pos')) pos.line X.env = pure false := by rfl)
    (hf : X.fn x = true ∨ X.env.scope.names.lookup x = some .local := by first | exact .inl rfl | exact .inr rfl | assumption) : PS X (.Assign [.Name x pos'] e pos) (tS κ W (sAsg i mr)) := s_asgI hN hi hx (im h) hs hf
theorem rr_of {N : Addr → Prop} {H : Hp} {G : Gh} {σ : L2.St} {env : En} {v : V} {z : Rs} (rv : RV κ σ N H G env v z) : RR κ N H G v z := by
  cases z with
  | sh d => exact rv
  | ow l =>
    obtain ⟨a, xs, h1, h2, h3, h4, h5, h6⟩ := rv
    exact ⟨a, xs, h1, h2, h3, h4, h6⟩
  | tr o =>
    obtain ⟨F, h1, h2⟩ := rv
    exact ⟨F, h1, fun a m => (h2 a m).2⟩
theorem s_ret (h : PE X e (tX κ W (RV κ) mr)) : PS X (.Return (some e) pos) (tS κ W (sRet mr)) := PS.imp (ps_ret (im h)) fun D σ H ⟨G, env, r, q⟩ => by
  refine ⟨G, env, r, ?_⟩
  unfold sRet sbnd at q
  cases w : mr env with
  | none => rw [w] at q; exact q
  | some o => cases o with
    | ex x e1 =>
      rw [w] at q
      exact fun c d H' G' a b g => q c d σ H' G' a b g
    | ok z e1 =>
      rw [w] at q
      exact fun v H1 G1 r1 rv f1 => q v H1 G1 r1.sub (rr_of rv) ⟨f1.hk, f1.gk, f1.gn⟩
theorem s_retI (h : PE X e (tI κ W (RV κ) mr)) : PS X (.Return (some e) pos) (tS κ W (sRetI mr)) := PS.imp (ps_ret h) fun D σ H ⟨G, env, r, q⟩ => by
  refine ⟨G, env, r, ?_⟩
  unfold sRetI sbnd at q
  cases w : mr env with
  | none => rw [w] at q; exact q
  | some o => cases o with
    | ex x e1 =>
      rw [w] at q
      exact fun c d H' G' a b g => q c d σ H' G' a b g
    | ok z e1 =>
      rw [w] at q
      exact fun v H1 G1 r1 rv f1 => q v σ H1 G1 r1 rv f1
/-- an impure value in a def that is handed nothing to change -/
theorem s_retX (h : PE X e (tI κ W (RV κ) mr)) : PS X (.Return (some e) pos) (tS κ W (sRet mr)) := PS.imp (ps_ret h) fun D σ H ⟨G, env, r, q⟩ => by
  refine ⟨G, env, r, ?_⟩
  unfold sRet sbnd at q
  cases w : mr env with
  | none => rw [w] at q; exact q
  | some o => cases o with
    | ex x e1 =>
      rw [w] at q
      exact fun c d H' G' a b g => q c d σ H' G' a b g
    | ok z e1 =>
      rw [w] at q
      exact fun v H1 G1 r1 rv f1 => q v H1 G1 r1.sub (rr_of rv) ⟨f1.hk, f1.gk, f1.gn⟩
theorem s_retV {i : Nat} {x : Str} (h : PE X (.Name x pos') (tVar i)) : PS X (.Return (some (.Name x pos')) pos) (tS κ W (sRetV i)) := PS.imp (ps_ret h) fun D σ H ⟨G, env, r, q⟩ => by
  unfold sRetV at q
  have fr : FrR H G σ env H G := ⟨fun _ o h _ => ⟨o, h, fun _ => rfl⟩, Same.refl _, fun _ _ _ h _ => h⟩
  cases z : env[i]? with
  | none => rw [z] at q; exact q.elim
  | some s =>
    have rs := r.slot i s z
    rw [z] at q
    cases s with
    | un => exact q.elim
    | sh d =>
      obtain ⟨_, v, h1, h2⟩ := rs
      exact ⟨v, h1, q v H G r.sub h2 fr⟩
    | ow l =>
      obtain ⟨v, h1, ro⟩ := rs
      obtain ⟨a, xs, rfl, h0, h2, h3, h4⟩ := ro.ls_inv
      exact ⟨_, h1, q _ H G r.sub ⟨a, xs, rfl, h2, h3, h4, fun o _ => ⟨i, _, z, rfl, by rw [h0]; exact List.mem_singleton_self a⟩⟩ fr⟩
    | lk l => exact q.elim
    | bo l => exact q.elim
    | io o => exact q.elim
    | tr o =>
      obtain ⟨v, h1, ro⟩ := rs
      exact ⟨_, h1, q _ H G r.sub ⟨_, ro, fun a m o _ => ⟨i, _, z, rfl, m⟩⟩ fr⟩
theorem s_ifI (ht : PT X c (tI κ W RT mt)) (h1 : PSs X sts (tS κ W m)) (h2 : PSs X su (tS κ W n)) : PS X (.If c sts su pos) (tS κ W (sIf mt m n)) := PS.imp (ps_if ht h1 h2) fun D σ H ⟨G, env, r, q⟩ => sbind_post r q fun z e1 v H1 G1 _ r1 rv f1 q1 => by
  cases rv
  cases z with
  | true => exact ⟨G1, e1, r1, q1⟩
  | false => exact ⟨G1, e1, r1, q1⟩
theorem s_if (ht : PT X c (tX κ W RT mt)) (h1 : PSs X sts (tS κ W m)) (h2 : PSs X su (tS κ W n)) : PS X (.If c sts su pos) (tS κ W (sIf mt m n)) := s_ifI (im_t ht) h1 h2
end

/-! ### own things changed -/
section
variable {κ : Kx} {W : WX} {σ : L2.St} {H H' : Hp} {G : Gh} {env : En} {v : V}
/-- the own thing at slot i is another one from here on, with its own addresses and new ones -/
theorem Rep.chgG (r : Rep κ H G σ env) {i : Nat} {s s' : Sl} {o o' : O} {F : List Addr} {g' : Hp} (e : env[i]? = some s) (hm : s.mut = true) (t : s.th = some o) (t' : s'.th = some o') (hf : s'.fix = true → s'.was s) (hm' : s'.mut = true) (ea : σ[i]? = some (some v))
    (gk : Same G.g g') (sub : Sub κ g' H') (gn : ∀ a u, H a = some u → G.g a = none → a ∉ G.fp i → g' a = none)
    (h : RO κ H' g' v o' F) (hk : ∀ a u, H a = some u → a ∉ G.fp i → ∃ o', H' a = some o' ∧ (nt u → o' = u)) (hF : ∀ a, a ∈ F → a ∈ G.fp i ∨ H a = none) :
    Rep κ H' ⟨g', (G.put i F).fp⟩ σ (env.set i s') ∧ Fr H G σ env H' ⟨g', (G.put i F).fp⟩ σ (env.set i s') := by
  have hi : i < env.length := (List.getElem?_eq_some_iff.mp e).1
  have me : ∀ a, a ∈ G.fp i → Own G env i a := fun a m => ⟨s, o, e, t, m⟩
  have re := r.re (s := s') (F := F) (H' := H') (g' := g') (x := some v) hi sub gk (RSl.of t' rfl h) (fun j u a w e2 m o' h => by
    obtain ⟨z, k1, k2⟩ := hk a o' h fun m' => w (r.inj i j a u (me a m') e2 m)
    rw [k1, k2 (r.pl e2 m h).1]) (fun j a w ow => by
    obtain ⟨u, o2, e2, t2, m2⟩ := id ow
    obtain ⟨⟨z, hz⟩, g0⟩ := r.own ow
    exact gn a z hz g0 fun m' => w (r.inj i j a u (me a m') e2 m2)) fun a m j u w e2 m2 => by
    rcases hF a m with q | q
    · exact w (r.inj i j a u (me a q) e2 m2)
    · obtain ⟨z, hz⟩ := r.live e2 m2
      rw [q] at hz
      cases hz
  have fr := Fr.re (σ := σ) (H := H) (H' := H') (g' := g') (s := s') (F := F) (x := some v) (s0 := s) e (fun a u h n => hk a u h fun m => n ⟨i, s, e, hm, m⟩) gk (fun a u h g n => gn a u h g fun m => n ⟨i, s, e, hm, m⟩)
    (fun _ a u m h => by
      rcases hF a m with q | q
      · exact ⟨i, s, e, hm, q⟩
      · rw [q] at h; cases h)
    fun q => ⟨hf q, by rw [ea]; rfl, (List.getElem?_eq_some_iff.mp ea).1, hm'⟩
  rw [set_same ea] at re fr
  exact ⟨re, fr⟩
theorem Rep.chgO (r : Rep κ H G σ env) {i : Nat} {s s' : Sl} {o o' : O} {F : List Addr} (e : env[i]? = some s) (hm : s.mut = true) (t : s.th = some o) (t' : s'.th = some o') (hf : s'.fix = true → s'.was s) (hm' : s'.mut = true) (ea : σ[i]? = some (some v))
    (h : RO κ H' G v o' F) (hk : ∀ a u, H a = some u → a ∉ G.fp i → H' a = some u) (hF : ∀ a, a ∈ F → a ∈ G.fp i ∨ H a = none) :
    ∃ G', G'.g = G.g ∧ Rep κ H' G' σ (env.set i s') ∧ Fr H G σ env H' G' σ (env.set i s') := by
  have sub : Sub κ G.g H' := ⟨fun a u q => hk a u (r.sub a u q) fun m => (by rw [(r.own ⟨s, o, e, t, m⟩).2] at q; cases q), r.sub.n, tabs_of r.sub.t fun a u q np => hk a u q fun m => np (r.pl e m q)⟩
  obtain ⟨re, fr⟩ := r.chgG e hm t t' hf hm' ea (Same.refl _) sub (fun _ _ _ h _ => h) h (fun a u q m => ⟨u, hk a u q m, fun _ => rfl⟩) hF
  exact ⟨⟨G.g, (G.put i F).fp⟩, rfl, re, fr⟩
/-- the slot that holds an own list to be changed -/
def setL (s : Sl) (l : List D) : Sl := match s with
  | .io _ => .io (.ls l)
  | _ => .ow l
def getL : Sl → Option (List D)
  | .ow l => some l
  | .io (.ls l) => some l
  | _ => none
theorem getL_th {s : Sl} {l : List D} (h : getL s = some l) : s.th = some (.ls l) ∧ s.mut = true := by
  cases s with
  | ow k => cases h; exact ⟨rfl, rfl⟩
  | io o => cases o <;> cases h; exact ⟨rfl, rfl⟩
  | _ => cases h
theorem setL_th {s : Sl} {l : List D} : (setL s l).th = some (.ls l) ∧ (setL s l).mut = true := by
  cases s <;> exact ⟨rfl, rfl⟩
theorem setL_was {s : Sl} {l k : List D} (h : getL s = some k) : (setL s l).fix = true → (setL s l).was s := fun q => by
  cases s with
  | ow k => cases q
  | io o => exact ⟨_, rfl⟩
  | _ => cases h
theorem lst_at (r : Rep κ H G σ env) {i : Nat} {s : Sl} {l : List D} (e : env[i]? = some s) (h : getL s = some l) : ∃ a xs, σ[i]? = some (some (.ref a)) ∧ H a = some (.lst xs) ∧ RpA κ G xs l ∧ G.fp i = [a] ∧ G.g a = none := by
  obtain ⟨v, h1, ro⟩ := (r.slot i s e).th (getL_th h).1
  obtain ⟨a, xs, rfl, h0, h2, h3, h4⟩ := ro.ls_inv
  exact ⟨a, xs, h1, h2, h4, h0, h3⟩
/-- the own list at slot i holds something else from here on -/
theorem Rep.chg (r : Rep κ H G σ env) {i : Nat} {s : Sl} {l l' : List D} {a : Addr} {ys : List V} (e : env[i]? = some s) (hl : getL s = some l) (ea : σ[i]? = some (some (.ref a))) (h : RpA κ G ys l') :
    ∃ G', G'.g = G.g ∧ Rep κ (upd H a (.lst ys)) G' σ (env.set i (setL s l')) ∧ Fr H G σ env (upd H a (.lst ys)) G' σ (env.set i (setL s l')) := by
  obtain ⟨b, xs, h1, h2, h3, h4, h5⟩ := lst_at r e hl
  rw [ea] at h1
  cases h1
  refine r.chgO e (getL_th hl).2 (getL_th hl).1 setL_th.1 (setL_was hl) setL_th.2 ea (.ls (xs := ys) upd_same h5 h) (fun b u q m => ?_) fun b m => .inl (by rw [h4]; exact m)
  have n : b ≠ a := fun z => m (by rw [h4, z]; exact List.mem_singleton_self a)
  rw [upd_ne n]
  exact q
end
/-- an own list, unlocked, stands in slot i -/
def sOwn (i : Nat) (s : Ss) : Ss := fun e => match e[i]? with
  | some (.ow _) => s e
  | some (.io (.ls _)) => s e
  | _ => none
/-- the own list at slot i changed -/
def chL (i : Nat) (f : List D → Option (List D)) : Ss := fun e => match e[i]? with
  | some (.ow l) => match f l with
    | some k => some (.nx (e.set i (.ow k)))
    | none => none
  | some (.io (.ls l)) => match f l with
    | some k => some (.nx (e.set i (.io (.ls k))))
    | none => none
  | _ => none
/-- xs.append(e) -/
def sApp (i : Nat) (m : Sm D) : Ss := sOwn i (sbnd m fun d => chL i fun l => if l.length < szl then some (l ++ [d]) else none)
/-- xs.extend(e) -/
def sExt (i : Nat) (m : Sm D) : Ss := sOwn i (sbnd m fun d => match d with
  | .lst k => chL i fun l => if l.length + k.length ≤ szl then some (l ++ k) else none
  | _ => fun _ => none)
def opSetI (l : List D) (i : Int) (d : D) : Option (List D) := match ixN l.length i with
  | some j => some (l.set j d)
  | none => none
/-- xs[j] = e -/
def sSetI (i : Nat) (mj m : Sm D) : Ss := sbnd m fun d => sOwn i (sbnd mj fun j => match j with
  | .int z => chL i fun l => opSetI l z d
  | _ => fun _ => none)
theorem sOwn_of {κ : Kx} {W : WX} {σ : L2.St} {H : Hp} {G : Gh} {env : En} {i : Nat} {s : Ss} {D0 : Ends} (q : SPost κ W σ H G env (sOwn i s env) D0) : ∃ t l, env[i]? = some t ∧ getL t = some l ∧ SPost κ W σ H G env (s env) D0 := by
  unfold sOwn at q
  cases z : env[i]? with
  | none => rw [z] at q; exact q.elim
  | some o =>
    rw [z] at q
    cases o with
    | ow l => exact ⟨_, l, rfl, rfl, q⟩
    | io o => cases o with
      | ls l => exact ⟨_, l, rfl, rfl, q⟩
      | _ => exact q.elim
    | _ => exact q.elim
theorem chL_of {κ : Kx} {W : WX} {σ : L2.St} {H : Hp} {G : Gh} {env : En} {i : Nat} {f : List D → Option (List D)} {D0 : Ends} (q : SPost κ W σ H G env (chL i f env) D0) : ∃ t l k, env[i]? = some t ∧ getL t = some l ∧ f l = some k ∧ SPost κ W σ H G env (some (.nx (env.set i (setL t k)))) D0 := by
  unfold chL at q
  cases z : env[i]? with
  | none => rw [z] at q; exact q.elim
  | some o =>
    rw [z] at q
    cases o with
    | ow l =>
      dsimp only at q
      cases w : f l with
      | none => rw [w] at q; exact q.elim
      | some k => rw [w] at q; exact ⟨_, l, k, rfl, rfl, w, q⟩
    | io o => cases o with
      | ls l =>
        dsimp only at q
        cases w : f l with
        | none => rw [w] at q; exact q.elim
        | some k => rw [w] at q; exact ⟨_, l, k, rfl, rfl, w, q⟩
      | _ => exact q.elim
    | _ => exact q.elim
section
variable {X : Cx} {κ : Kx} {W : WX} {a b c e : Expr} {m : Sm D} {mj : Sm D} {pos pos' p2 : Pos}
/-- o.m(e) as a statement, o an own list's name: the reading of the method's call -/
theorem own_call {r : V → List V → Hp → VK → Prop} {R : Rl D V} {i : Nat} {f : D → Ss} {D0 : Ends} {σ : L2.St} {H : Hp} {G : Gh} {env : En} (rp : Rep κ H G σ env) (hq : SPost κ W σ H G env (sOwn i (sbnd m f) env) D0)
    (k : ∀ d e1 v a H1 G1, Rep κ H1 G1 σ e1 → R σ (Nw H G env) H1 G1 e1 v d → σ[i]? = some (some (.ref a)) → SPost κ W σ H1 G1 e1 (f d e1) D0 → r (.ref a) [v] H1 fun _ H2 => D0.nx σ H2) :
    tDrop (tBM κ.K "list" r (tVar i) (tCons (tI κ W R m) tNil)) D0 σ H := by
  obtain ⟨t0, l0, e0, g0, hq⟩ := sOwn_of hq
  obtain ⟨a, xs, h1, h2, h3, h4, h5⟩ := lst_at rp e0 g0
  refine ⟨_, h1, .inl ⟨rfl, xs, SqL.of h2⟩, ?_⟩
  exact sbind_post rp hq fun d e1 v H1 G1 em r1 rv f1 q1 => k d e1 v a H1 G1 r1 rv h1 q1
theorem s_appI {x : Str} {i : Nat} {apos cpos : Pos} (hK : X.K = κ.K) (hx : PE X (.Name x pos') (tVar i)) (he : PE X e (tI κ W (RP κ) m))
    (hs : swapsWith (.Call (.Attribute (.Name x pos') "append" apos) [e] [] cpos) none pos.line X.env = pure false := by rfl)
    (hbase : attributeBase (.Name x pos') "append" X.env (eval (.Name x pos') X.env) = eval (.Name x pos') X.env := by rfl)
    (hfew : ((backTo cpos (starEach [e] X.env)).all (fun x => !x.1) && (backToKw cpos (keywordEach [] X.env)).all (fun x => x.1.isSome)
      && decide (([e] : List Expr).length + ([] : List Keyword).length + (if ([] : List Keyword).isEmpty then 0 else 1) < 30)) = true := by rfl)
    (hline : (apos.endLine == cpos.line) = true := by rfl) (hst : starEach [e] X.env = (false, eval e X.env) :: starEach [] X.env := by rfl) (hplain : (backTo cpos (starEach [] X.env)).any (·.1) = false := by rfl) :
    PS X (.Expr (.Call (.Attribute (.Name x pos') "append" apos) [e] [] cpos) pos) (tS κ W (sApp i m)) :=
  PS.imp (ps_expr (pe_bm PySem.F.plainAttrs_list PySem.F.slot_list_append PySem.F.type_list_append mt_append hx (pa_cons he pa_nil hst) hbase hfew hline hst hplain) hs) fun D σ H ⟨G, env, r, q⟩ => by
    rw [hK]
    refine own_call r q fun d e1 v a H1 G1 r1 rv ha q1 => ?_
    obtain ⟨t, l, k, z, hl, hk, q1⟩ := chL_of q1
    by_cases hsz : l.length < szl
    · rw [if_pos hsz] at hk
      cases hk
      obtain ⟨b, ys, g1, g2, g3, _⟩ := lst_at r1 z hl
      rw [ha] at g1
      cases g1
      obtain ⟨G2, eg, rep, fr⟩ := r1.chg z hl ha (g3.append (.cons rv .nil))
      exact ⟨a, ys, v, rfl, rfl, g2, by rw [g3.length]; exact szl_lt (Nat.le_of_lt hsz), q1 σ _ G2 rep fr⟩
    · rw [if_neg hsz] at hk; cases hk
theorem s_app {x : Str} {i : Nat} {apos cpos : Pos} (hK : X.K = κ.K) (hx : PE X (.Name x pos') (tVar i)) (he : PE X e (tX κ W (RP κ) m))
    (hs : swapsWith (.Call (.Attribute (.Name x pos') "append" apos) [e] [] cpos) none pos.line X.env = pure false := by rfl)
    (hbase : attributeBase (.Name x pos') "append" X.env (eval (.Name x pos') X.env) = eval (.Name x pos') X.env := by rfl)
    (hfew : ((backTo cpos (starEach [e] X.env)).all (fun x => !x.1) && (backToKw cpos (keywordEach [] X.env)).all (fun x => x.1.isSome)
      && decide (([e] : List Expr).length + ([] : List Keyword).length + (if ([] : List Keyword).isEmpty then 0 else 1) < 30)) = true := by rfl)
    (hline : (apos.endLine == cpos.line) = true := by rfl) (hst : starEach [e] X.env = (false, eval e X.env) :: starEach [] X.env := by rfl) (hplain : (backTo cpos (starEach [] X.env)).any (·.1) = false := by rfl) :
    PS X (.Expr (.Call (.Attribute (.Name x pos') "append" apos) [e] [] cpos) pos) (tS κ W (sApp i m)) := s_appI hK hx (im he) hs hbase hfew hline hst hplain
end
/-! ### several names -/
def setAll : List Nat → List D → En → Option En
  | [], [], e => some e
  | i :: is, d :: ds, e => if i < e.length then setAll is ds (e.set i (.sh d)) else none
  | _, _, _ => none
def gNames : List Nat → TGs
  | [] => gNil
  | i :: is => gCons (gName i) (gNames is)
/-- a target's reading serves its function -/
def TgOk (κ : Kx) (g : TG) (f : D → En → Option En) : Prop := ∀ (v : V) (d : D) (σ : L2.St) (H : Hp) (G : Gh) (env e1 : En) (Q : L2.St → Hp → Prop), f d env = some e1 → Rep κ H G σ env → Rp κ G v d → (∀ σ1 G1, Rep κ H G1 σ1 e1 → Fr H G σ env H G1 σ1 e1 → Q σ1 H) → g v σ H Q
section
variable {κ : Kx} {W : WX} {X : Cx}
theorem rep_sh {H : Hp} {G : Gh} {σ : L2.St} {env : En} {i : Nat} {v : V} {d : D} (r : Rep κ H G σ env) (hi : i < env.length) (h : Rp κ G v d) : ∃ G', G'.g = G.g ∧ Rep κ H G' (σ.set i (some v)) (env.set i (.sh d)) ∧ Fr H G σ env H G' (σ.set i (some v)) (env.set i (.sh d)) := by
  have re := r.re (s := .sh d) (F := []) (H' := H) (g' := G.g) (x := some v) hi r.sub (Same.refl _) ⟨rfl, v, rfl, h⟩ (fun _ _ _ _ _ _ _ h => h) (fun j a w ow => (r.own ow).2) fun a m => by cases m
  have fr := Fr.re (σ := σ) (H := H) (H' := H) (g' := G.g) (s := .sh d) (F := []) (x := some v) (List.getElem?_eq_getElem hi) (fun _ o h _ => ⟨o, h, fun _ => rfl⟩) (Same.refl _) (fun _ _ _ h _ => h) (fun q => by cases q) fun q => by cases q
  exact ⟨⟨G.g, (G.put i []).fp⟩, rfl, re, fr⟩
def tgN (i : Nat) : D → En → Option En := fun d e => if i < e.length then some (e.set i (.sh d)) else none
theorem tg_name (i : Nat) : TgOk κ (gName i) (tgN i) := fun v d σ H G env e1 Q e r h q => by
  unfold tgN at e
  by_cases hi : i < env.length
  · rw [if_pos hi] at e
    cases e
    obtain ⟨G1, _, a, b⟩ := rep_sh r hi h
    exact q _ G1 a b
  · rw [if_neg hi] at e; cases e
theorem tgs_names : ∀ (is : List Nat) (vs : List V) (ds : List D) (σ : L2.St) (H : Hp) (G : Gh) (env e1 : En) (Q : L2.St → Hp → Prop), setAll is ds env = some e1 → Rep κ H G σ env → RpA κ G vs ds → (∀ σ1 G1, Rep κ H G1 σ1 e1 → Fr H G σ env H G1 σ1 e1 → Q σ1 H) → gNames is vs σ H Q
  | [], vs, ds, σ, H, G, env, e1, Q, e, r, h, q => by
    cases h with
    | nil => cases e; exact ⟨rfl, q σ G r Fr.refl⟩
    | cons => cases e
  | i :: is, vs, ds, σ, H, G, env, e1, Q, e, r, h, q => by
    cases h with
    | nil => cases e
    | cons h t =>
      dsimp only [setAll] at e
      split at e
      · rename_i hi
        obtain ⟨G1, eg, a, b⟩ := rep_sh r hi h
        exact ⟨_, _, rfl, tgs_names is _ _ _ H G1 _ e1 Q e a (by rw [eg]; exact t) fun σ1 G2 r1 f1 => q σ1 G2 r1 (b.trans f1)⟩
      · cases e
def tgT (is : List Nat) : D → En → Option En := fun d e => match d with
  | .tup ds => setAll is ds e
  | _ => none
theorem setAll_len : ∀ {is : List Nat} {ds : List D} {e e1 : En}, setAll is ds e = some e1 → ds.length = is.length
  | [], [], _, _, _ => rfl
  | [], _ :: _, _, _, h => by cases h
  | _ :: _, [], _, _, h => by cases h
  | i :: is, d :: ds, e, e1, h => by
    dsimp only [setAll] at h
    split at h
    · rw [List.length_cons, List.length_cons, setAll_len h]
    · cases h
theorem tg_tup (is : List Nat) {n : Nat} (hn : n = is.length) : TgOk κ (gTup κ.K n (gNames is)) (tgT is) := fun v d σ H G env e1 Q e r h q => by
  subst hn
  cases h with
  | tup h t =>
    have e' : setAll is _ env = some e1 := e
    exact ⟨_, _, rfl, SqT.of (r.sub _ _ h), by rw [t.length, setAll_len e'], tgs_names is _ _ σ H G env e1 Q e' r t q⟩
  | _ => cases e
/-- target = value, any target -/
def sTg (f : D → En → Option En) (m : Sm D) : Ss := sbnd m fun d e => match f d e with
  | some e1 => some (.nx e1)
  | none => none
theorem s_tg {tg e : Expr} {g : TG} {f : D → En → Option En} {m : Sm D} {pos : Pos} (hg : PG X tg g) (hf : TgOk κ g f) (he : PE X e (tI κ W (RP κ) m)) (hs : swapsWithSole [tg] e pos.line X.env = pure false := by rfl) (hw : swappedStores [tg] e X.env = pure none := by rfl) (h1 : List.map (fun x => x.snd) (assignEach [tg] X.env) = [assign tg X.env] := by rfl) :
    PS X (.Assign [tg] e pos) (tS κ W (sTg f m)) := PS.imp (ps_asg he hg hs hw h1) fun D σ H ⟨G, env, r, q⟩ => sbind_post r q fun d e1 v H1 G1 em r1 rv f1 q1 => by
  cases z : f d e1 with
  | none => rw [z] at q1; exact q1.elim
  | some e2 =>
    rw [z] at q1
    exact hf v d σ H1 G1 e1 e2 _ z r1 rv fun σ1 G2 r2 f2 => q1 σ1 H1 G2 r2 f2
end

/-! ### loops -/
/-- an iterator gives these items, one after another -/
def Yields (κ : Kx) (J : It) (ds : List D) (H G : Hp) : Prop := ∀ i : Nat, (∀ d, ds[i]? = some d → J.go i H ∧ ∀ x H', J.yld i H x H' → (H' = H ∧ Rp κ G x d) ∨ ∃ (T : Addr) (xs : List V) (es : List D), H T = none ∧ H' = upd H T (.tup xs) ∧ x = .ref T ∧ d = .tup es ∧ RpA κ G xs es) ∧ (ds.length ≤ i → J.stop i H)
def RI (κ : Kx) : Rl (List D) It := fun _ _ H G env J ds => ∃ pr : Addr → Prop, (∀ a, pr a → ¬ Mt G env a) ∧ ∀ H' (G' : Hp), (∀ a o, pr a → H a = some o → nt o → H' a = some o) → Same G G' → Same G' H' → Yields κ J ds H' G'
instance {κ : Kx} : RlMono (RI κ) := ⟨fun _ q => q⟩
def forL (tg : D → En → Option En) (body : Ss) : List D → Ss
  | [], e => some (.nx e)
  | d :: ds, e => match tg d e with
    | none => none
    | some e1 => match body e1 with
      | some (.nx e2) => forL tg body ds e2
      | some (.ct e2) => forL tg body ds e2
      | some (.bk e2) => some (.nx e2)
      | o => o
def sFor (mi : Sm (List D)) (tg : D → En → Option En) (body : Ss) : Ss := sbnd mi fun ds => forL tg body ds
section
variable {X : Cx} {κ : Kx} {W : WX}
theorem s_for {tgt iter : Expr} {sts : List Stmt} {mi : Sm (List D)} {g : TG} {f : D → En → Option En} {m : Ss} {pos : Pos} (hp : PassesOwn (model X.prog X.w) X.A X.env X.xe) (hc : X.calm = true) (hi : PI X tgt iter (tX κ W (RI κ) mi)) (hg : PG X tgt g) (hf : TgOk κ g f) (hb : PSs X sts (tS κ W m))
    (hs : ∀ x, foldedSetIterable iter X.env x = pure x := by intro _; rfl) : PS X (.For tgt iter sts [] pos) (tS κ W (sFor mi f m)) := PS.imp (ps_for hp hc hi hg hb hs) fun D σ H ⟨G, env, r, q⟩ => by
  refine tI.pu (sbind_post r q fun ds e1 J H1 G1 em r1 rv f1 q1 => ?_)
  obtain ⟨pr, hpr, yl⟩ := rv
  refine ⟨fun i k σ' H' => k = ds.length - i ∧ i ≤ ds.length ∧ ∃ G' env', Rep κ H' G' σ' env' ∧ Fr H1 G1 σ e1 H' G' σ' env' ∧ SPost κ W σ' H' G' env' (forL f m (ds.drop i) env') D, ⟨ds.length, by simp, Nat.zero_le _, G1, e1, r1, Fr.refl, q1⟩, ?_⟩
  rintro i k σ2 H2 ⟨rfl, hi2, G2, env2, r2, fr2, q2⟩
  have y := yl H2 G2 (fun a o pa e n => fr2.at e (hpr a pa)) fr2.gk r2.sub i
  by_cases hlt : i < ds.length
  · right
    have ed : ds[i]? = some ds[i] := List.getElem?_eq_getElem hlt
    have dr : ds.drop i = ds[i] :: ds.drop (i + 1) := (List.drop_eq_getElem_cons hlt)
    obtain ⟨go, yy⟩ := y.1 _ ed
    refine ⟨go, fun σ' H' => ∃ G' env', Rep κ H' G' σ' env' ∧ Fr H1 G1 σ e1 H' G' σ' env' ∧ SPost κ W σ' H' G' env' (forL f m (ds.drop (i + 1)) env') D, fun σ' H' ⟨G', env', a, b, c⟩ => ⟨ds.length - (i + 1), by omega, rfl, hlt, G', env', a, b, c⟩, ?_⟩
    rw [dr] at q2
    dsimp only [forL] at q2
    intro x H3 hy
    cases z : f ds[i] env2 with
    | none => rw [z] at q2; exact q2.elim
    | some e3 =>
      rw [z] at q2
      dsimp only at q2
      -- the item stands in G3
      have item : ∃ G3 : Gh, Rep κ H3 G3 σ2 env2 ∧ Fr H2 G2 σ2 env2 H3 G3 σ2 env2 ∧ Rp κ G3 x ds[i] := by
        rcases yy x H3 hy with ⟨rfl, rx⟩ | ⟨T, xs, es, hT, rfl, rfl, e4, rx⟩
        · exact ⟨G2, r2, Fr.refl, rx⟩
        · have st := new_sh (o := .tup xs) r2 hT
          refine ⟨G2.up T (.tup xs), st.rep, st.fr, ?_⟩
          rw [e4]
          exact .tup upd_same (rx.mono (same_new (Same.none r2.sub hT)))
      obtain ⟨G3, r3, fr3, rx⟩ := item
      refine hf x ds[i] σ2 H3 G3 env2 e3 _ z r3 rx fun σ4 G4 r4 fr4 => ?_
      have frA := fr3.trans fr4
      refine ⟨G4, e3, r4, ?_⟩
      have q3 := SPost.shift frA q2
      cases w : m e3 with
      | none => rw [w] at q3; exact q3
      | some o => cases o with
        | nx e5 =>
          rw [w] at q3
          exact fun σ5 H5 G5 r5 fr5 => ⟨G5, e5, r5, (fr2.trans frA).trans fr5, SPost.shift fr5 q3⟩
        | ct e5 =>
          rw [w] at q3
          exact fun σ5 H5 G5 r5 fr5 => ⟨G5, e5, r5, (fr2.trans frA).trans fr5, SPost.shift fr5 q3⟩
        | bk e5 => rw [w] at q3; exact q3
        | rt r5 => rw [w] at q3; exact q3
        | rv r5 e5 => rw [w] at q3; exact q3
        | ex x5 e5 => rw [w] at q3; exact q3
  · left
    have e : i = ds.length := by omega
    subst e
    refine ⟨y.2 (Nat.le_refl _), ?_⟩
    rw [List.drop_length] at q2
    exact q2 σ2 H2 G2 r2 Fr.refl
/-- while: at most n turns -/
def whL (n : Nat) (t : Sm Bool) (body : Ss) : Ss := match n with
  | 0 => fun _ => none
  | n + 1 => sbnd t fun b e => match b with
    | false => some (.nx e)
    | true => match body e with
      | some (.nx e2) => whL n t body e2
      | some (.ct e2) => whL n t body e2
      | some (.bk e2) => some (.nx e2)
      | o => o
theorem s_while {c : Expr} {sts : List Stmt} {t : Sm Bool} {m : Ss} {pos : Pos} (n : Nat) (hp : PassesOwn (model X.prog X.w) X.A X.env X.xe) (hc : PT X c (tX κ W RT t)) (hb : PSs X sts (tS κ W m)) : PS X (.While c sts [] pos) (tS κ W (whL n t m)) := PS.imp (ps_while hp (im_t hc) hb) fun D σ H ⟨G, env, r, q⟩ => by
  refine ⟨fun k σ' H' => ∃ G' env', Rep κ H' G' σ' env' ∧ SPost κ W σ' H' G' env' (whL k t m env') D, ⟨n, G, env, r, q⟩, ?_⟩
  rintro k σ2 H2 ⟨G2, env2, r2, q2⟩
  cases k with
  | zero => exact q2.elim
  | succ k =>
    dsimp only [whL] at q2
    refine sbind_post r2 q2 fun b e3 v H3 G3 em r3 rv f3 q3 => ?_
    cases rv
    cases b with
    | false => exact q3 σ2 H3 G3 r3 Fr.refl
    | true =>
      rw [if_pos rfl]
      dsimp only at q3
      refine ⟨fun σ' H' => ∃ G' env', Rep κ H' G' σ' env' ∧ SPost κ W σ' H' G' env' (whL k t m env') D, fun σ' H' h => ⟨k, Nat.lt_succ_self k, h⟩, G3, e3, r3, ?_⟩
      cases w : m e3 with
      | none => rw [w] at q3; exact q3
      | some o => cases o with
        | nx e5 =>
          rw [w] at q3
          exact fun σ5 H5 G5 r5 fr5 => ⟨G5, e5, r5, SPost.shift fr5 q3⟩
        | ct e5 =>
          rw [w] at q3
          exact fun σ5 H5 G5 r5 fr5 => ⟨G5, e5, r5, SPost.shift fr5 q3⟩
        | bk e5 => rw [w] at q3; exact q3
        | rt r5 => rw [w] at q3; exact q3
        | rv r5 e5 => rw [w] at q3; exact q3
        | ex x5 e5 => rw [w] at q3; exact q3
end
/-! ### what is walked -/
/-- a list that stays while it is walked -/
def RL (κ : Kx) : Rl (List D) V := fun _ _ H G env v l => ∃ a xs, v = .ref a ∧ H a = some (.lst xs) ∧ RpA κ G xs l ∧ (G.g a = some (.lst xs) ∨ ¬ Mt G env a)
instance {κ : Kx} : RlMono (RL κ) := ⟨fun _ q => q⟩
def RLs (κ : Kx) : Rl (List D) (List V) := fun σ N H G env vs l => ∃ v, vs = [v] ∧ RL κ σ N H G env v l
instance {κ : Kx} : RlMono (RLs κ) := ⟨fun _ q => q⟩
def eIt (i : Nat) : Sm (List D) := fun env => match env[i]? with
  | some (.sh (.lst l)) => some (.ok l env)
  | some (.lk l) => some (.ok l env)
  | some (.bo l) => some (.ok l env)
  | _ => none
def fIt (m : Sm D) : Sm (List D) := bnd m fun d e => match d with
  | .lst l => some (.ok l e)
  | _ => none
section
variable {X : Cx} {κ : Kx} {W : WX} {a b e tg : Expr} {mi mj : Sm (List D)} {m : Sm D} {ms : Sm (List D)} {pos p : Pos}
theorem l_name {i : Nat} {x : Str} (h : PE X (.Name x pos) (tVar i)) : PE X (.Name x pos) (tX κ W (RL κ) (eIt i)) := PE.imp h fun σ H Q ⟨G, env, r, q⟩ => by
  unfold eIt at q
  cases z : env[i]? with
  | none => rw [z] at q; exact q.elim
  | some s =>
    have rs := r.slot i s z
    rw [z] at q
    cases s with
    | sh d =>
      cases d with
      | lst l =>
        obtain ⟨_, v, h1, h2⟩ := rs
        cases h2 with
        | lst h3 h4 => exact ⟨_, h1, q _ H G r ⟨_, _, rfl, r.sub _ _ h3, h4, .inl h3⟩ (Grw.refl _) Fr.refl⟩
      | _ => exact q.elim
    | lk l =>
      obtain ⟨v, h1, ro⟩ := rs
      obtain ⟨c, xs, rfl, h0, h2, h3, h4⟩ := ro.ls_inv
      refine ⟨_, h1, q _ H G r ⟨c, xs, rfl, h2, h4, .inr fun mt => ?_⟩ (Grw.refl _) Fr.refl⟩
      obtain ⟨j, t, e2, hm, m⟩ := mt
      have w := r.inj i j c t ⟨_, _, z, rfl, by rw [h0]; exact List.mem_singleton_self c⟩ e2 m
      subst w
      rw [z] at e2
      cases e2
      cases hm
    | bo l =>
      obtain ⟨c, xs, h1, h2, h4, h0⟩ := rs
      refine ⟨_, h1, q _ H G r ⟨c, xs, rfl, h2, h4, .inr fun mt => ?_⟩ (Grw.refl _) Fr.refl⟩
      obtain ⟨j, t, e2, hm, m⟩ := mt
      obtain ⟨o, ht⟩ := mut_th hm
      have w := r.inj j i c _ ⟨t, o, e2, ht, m⟩ z (by rw [h0]; exact List.mem_singleton_self c)
      subst w
      rw [z] at e2
      cases e2
      cases hm
    | _ => exact q.elim
theorem l_of (h : PE X e (tX κ W (RP κ) m)) : PE X e (tX κ W (RL κ) (fIt m)) := PE.imp h fun σ H Q ⟨G, env, r, q⟩ => bind_post r q fun d e1 v H1 G1 em r1 rv s1 f1 q1 => by
  cases d with
  | lst l =>
    cases rv with
    | lst h3 h4 => exact q1 _ H1 G1 r1 ⟨_, _, rfl, r1.sub _ _ h3, h4, .inl h3⟩ (Grw.refl _) Fr.refl
  | _ => exact q1.elim
/-- the items of a list that stays -/
theorem list_yields {J : It} {σ : L2.St} {N : Addr → Prop} {H : Hp} {G : Gh} {env : En} {v : V} {l ds : List D} (r : Rep κ H G σ env) (h : RL κ σ N H G env v l)
    (k : ∀ a xs, v = .ref a → ∀ H' (G' : Hp), H' a = some (.lst xs) → RpA κ G' xs l → Yields κ J ds H' G') : RI κ σ N H G env J ds := by
  obtain ⟨a, xs, rfl, h1, h2, h3⟩ := h
  refine ⟨fun b => b = a ∧ ¬ Mt G env a, fun b hb => hb.1 ▸ hb.2, fun H' G' hp sg sh => k a xs rfl H' G' ?_ (h2.mono sg)⟩
  rcases h3 with h3 | h3
  · exact sh _ _ (sg _ _ h3)
  · exact hp a _ ⟨rfl, h3⟩ h1 fun _ z => nomatch z
theorem i_list (h : PE X e (tX κ W (RL κ) mi)) : PI X tg e (tX κ W (RI κ) mi) := ⟨fun pins s σ H R I ⟨G, env, r, q⟩ => (pi_list h).run pins s σ H R I ⟨G, env, r, by
  cases z : mi env with
  | none => rw [z] at q; exact q
  | some o => cases o with
    | ex x e1 => rw [z] at q; exact q
    | ok l e1 =>
      rw [z] at q
      intro v H1 G1 r1 rv s1 f1
      obtain ⟨a, xs, rfl, h1, h2, h3⟩ := id rv
      refine ⟨a, rfl, ⟨xs, SqL.of h1⟩, q _ H1 G1 r1 (list_yields r1 rv fun a' ys ea H' G' hl ha i => ?_) s1 f1⟩
      cases ea
      refine ⟨fun d hd => ?_, fun hi => ⟨ys, SqL.of hl, by rw [ha.length]; exact hi⟩⟩
      obtain ⟨x, hx, rx⟩ := ha.getD hd
      exact ⟨⟨ys, x, SqL.of hl, hx⟩, fun y H2 ⟨e2, hy⟩ => .inl ⟨e2, by
        have := hy ys (SqL.of hl)
        rw [hx] at this
        cases this
        exact rx⟩⟩⟩⟩
/-- the signs of a text -/
def fSg (m : Sm D) : Sm (List D) := bnd m fun d e => match d with
  | .str w => some (.ok (w.map fun c => .str [c]) e)
  | _ => none
theorem i_str (h : PE X e (tX κ W (RB κ) m)) : PI X tg e (tX κ W (RI κ) (fSg m)) := ⟨fun pins s σ H R I ⟨G, env, r, q⟩ => (pi_str h).run pins s σ H R I (bind_post r q fun d e1 v H1 G1 em r1 rv s1 f1 q1 => by
  cases d with
  | str w =>
    refine ⟨S w, RBq.str rv, q1 _ H1 G1 r1 ⟨fun _ => False, fun _ z => z.elim, fun H' G' _ _ _ i => ?_⟩ (Grw.refl _) Fr.refl⟩
    have ez : (S w).cps.size = w.length := S_len w
    refine ⟨fun d hd => ?_, fun hi => ?_⟩
    · rw [List.getElem?_map] at hd
      cases hw : w[i]? with
      | none => rw [hw] at hd; cases hd
      | some c =>
        rw [hw] at hd
        cases hd
        have hi : i < w.length := (List.getElem?_eq_some_iff.mp hw).1
        refine ⟨show i < (S w).cps.size by rw [ez]; exact hi, fun y H2 ⟨e2, c', hc, ey⟩ => .inl ⟨e2, ?_⟩⟩
        have hc' : w[i]? = some c' := by
          have : (S w).cps[i]? = w[i]? := by simp [S]
          rw [← this]; exact hc
        rw [hw] at hc'
        cases hc'
        rw [ey]
        exact .str [c]
    · show (S w).cps.size ≤ i
      rw [ez]
      simpa using hi
  | _ => exact q1.elim)⟩
/-- a tuple's items -/
def fTp (m : Sm D) : Sm (List D) := bnd m fun d e => match d with
  | .tup l => some (.ok l e)
  | _ => none
theorem i_tup (h : PE X e (tX κ W (RP κ) m)) : PI X tg e (tX κ W (RI κ) (fTp m)) := ⟨fun pins s σ H R I ⟨G, env, r, q⟩ => (pi_tup h).run pins s σ H R I (bind_post r q fun d e1 v H1 G1 em r1 rv s1 f1 q1 => by
  cases d with
  | tup l =>
    cases rv with
    | tup h3 h4 =>
      rename_i a xs
      refine ⟨a, rfl, ⟨xs, SqT.of (r1.sub _ _ h3)⟩, q1 _ H1 G1 r1 ⟨fun _ => False, fun _ z => z.elim, fun H' G' _ sg sh i => ?_⟩ (Grw.refl _) Fr.refl⟩
      have hl := SqT.of (K := X.K) (sh _ _ (sg _ _ h3))
      have ha := h4.mono sg
      refine ⟨fun d hd => ?_, fun hi => ⟨xs, hl, by rw [ha.length]; exact hi⟩⟩
      obtain ⟨x, hx, rx⟩ := ha.getD hd
      exact ⟨⟨xs, x, hl, hx⟩, fun y H2 ⟨e2, hy⟩ => .inl ⟨e2, by
        have := hy xs hl
        rw [hx] at this
        cases this
        exact rx⟩⟩
  | _ => exact q1.elim)⟩
def rng (lo : Int) (n : Nat) : List D := (List.range n).map fun (k : Nat) => D.int (lo + (k : Int))
def fRg1 (m : Sm (List D)) : Sm (List D) := bnd m fun ds e => match ds with
  | [.int j] => if j ≤ 1000000 ∧ -1000000 ≤ j then some (.ok (rng 0 j.toNat) e) else none
  | _ => none
def fRg2 (m : Sm (List D)) : Sm (List D) := bnd m fun ds e => match ds with
  | [.int i, .int j] => if (j ≤ 1000000 ∧ -1000000 ≤ j) ∧ i ≤ 1000000 ∧ -1000000 ≤ i then some (.ok (rng i (j - i).toNat) e) else none
  | _ => none
theorem rng_yields {lo : Int} {n : Nat} {σ : L2.St} {N : Addr → Prop} {H : Hp} {G : Gh} {env : En} : RI κ σ N H G env (Itr lo n) (rng lo n) := by
  refine ⟨fun _ => False, fun _ z => z.elim, fun H' G' _ _ _ i => ⟨fun d hd => ?_, fun hi => ?_⟩⟩
  · unfold rng at hd
    rw [List.getElem?_map] at hd
    cases hw : (List.range n)[i]? with
    | none => rw [hw] at hd; cases hd
    | some k =>
      rw [hw] at hd
      cases hd
      obtain ⟨hi, ek⟩ := List.getElem?_eq_some_iff.mp hw
      rw [List.getElem_range] at ek
      subst ek
      exact ⟨show i < n by simpa using hi, fun y H2 ⟨e2, ey⟩ => .inl ⟨e2, by rw [ey]; exact .int _⟩⟩
  · show n ≤ i
    unfold rng at hi
    simpa using hi
theorem i_rg1 {ml : List Bool} (hml : ml = [true]) (hg : Gl X "range") (hm : X.mg "range" = none) (h : PA X [a] (tX κ W (RA κ ml) ms)) (hs : starEach [a] X.env = [(false, eval a X.env)] := by rfl) : PI X tg (.Call (.Name "range" p) [a] [] pos) (tX κ W (RI κ) (fRg1 ms)) := ⟨fun pins s σ H R I ⟨G, env, r, q⟩ => (pi_range1 hg hm h hs).run pins s σ H R I (bind_post r q fun d e1 v H1 G1 em r1 rv s1 f1 q1 => by
  subst hml
  cases d with
  | nil => exact q1.elim
  | cons d t =>
    cases t with
    | cons _ _ => cases d <;> exact q1.elim
    | nil =>
      obtain ⟨u, rfl, ru⟩ := RBs.one rv
      cases d with
      | int j =>
        dsimp only at q1
        by_cases hj : j ≤ 1000000 ∧ -1000000 ≤ j
        · rw [if_pos hj] at q1
          exact ⟨j, by rw [ru.int], by omega, by omega, q1 _ H1 G1 r1 rng_yields (Grw.refl _) Fr.refl⟩
        · rw [if_neg hj] at q1; exact q1.elim
      | _ => exact q1.elim)⟩
/-- number and item -/
def enumL (l : List D) : List D := (l.zipIdx).map fun p => .tup [.int (p.2 : Int), p.1]
def fEn (m : Sm (List D)) : Sm (List D) := bnd m fun l e => some (.ok (enumL l) e)
def fRev (m : Sm (List D)) : Sm (List D) := bnd m fun l e => some (.ok l.reverse e)
end
/-! ### a loop over an own list locks it -/
def unlk (i : Nat) (e : En) : En := match e[i]? with
  | some (.lk l) => e.set i (.ow l)
  | _ => e
def sLock (i : Nat) (s : Ss) : Ss := fun e => match e[i]? with
  | some (.ow l) => match s (e.set i (.lk l)) with
    | some (.nx e1) => some (.nx (unlk i e1))
    | some (.bk e1) => some (.bk (unlk i e1))
    | some (.ct e1) => some (.ct (unlk i e1))
    | some (.ex x e1) => some (.ex x (unlk i e1))
    | some (.rv r e1) => some (.rv r (unlk i e1))
    | o => o
  | _ => s e
section
variable {X : Cx} {κ : Kx} {W : WX} {H H' : Hp} {G G' : Gh} {σ σ' : L2.St} {env env' : En} {i : Nat} {l : List D}
theorem Rep.swap {s t : Sl} (r : Rep κ H G σ env) (e : env[i]? = some s) {o : O} (hs : s.th = some o) (ht : t.th = some o) : Rep κ H G σ (env.set i t) := by
  have back : ∀ {j : Nat} {a : Addr}, Own G (env.set i t) j a → Own G env j a := fun {j a} ⟨u, o', e', t', m⟩ => by
    rcases set_look e' with ⟨rfl, rfl⟩ | ⟨w, e2⟩
    · exact ⟨s, o, e, hs, m⟩
    · exact ⟨u, o', e2, t', m⟩
  refine ⟨r.sub, by rw [List.length_set]; exact r.len, fun j u q => ?_, fun j k a u ow q m => ?_⟩
  · rcases set_look q with ⟨rfl, rfl⟩ | ⟨w, e2⟩
    · obtain ⟨x, h1, h2⟩ := (r.slot j s e).th hs
      exact .of ht h1 h2
    · exact r.slot j u e2
  · rcases set_look q with ⟨rfl, rfl⟩ | ⟨w, e2⟩
    · exact r.inj j k a s (back ow) e m
    · exact r.inj j k a u (back ow) e2 m
theorem Rep.locked (r : Rep κ H G σ env) (e : env[i]? = some (.ow l)) : Rep κ H G σ (env.set i (.lk l)) := r.swap e rfl rfl
theorem lock_mt {a : Addr} (m : Mt G (env.set i (.lk l)) a) : Mt G env a := by
  obtain ⟨j, s, e, h, m⟩ := m
  rcases set_look e with ⟨rfl, rfl⟩ | ⟨w, e2⟩
  · cases h
  · exact ⟨j, s, e2, h, m⟩
theorem unlk_cases : (∃ l, env[i]? = some (.lk l) ∧ unlk i env = env.set i (.ow l)) ∨ unlk i env = env := by
  unfold unlk
  split
  · rename_i l e; exact .inl ⟨l, e, rfl⟩
  · exact .inr rfl
theorem Rep.unlocked (r : Rep κ H G σ env) : Rep κ H G σ (unlk i env) := by
  rcases unlk_cases (i := i) (env := env) with ⟨l, e, q⟩ | q
  · rw [q]; exact r.swap e rfl rfl
  · rw [q]; exact r
theorem Fr.unlocked (e : env[i]? = some (.ow l)) (f : Fr H G σ (env.set i (.lk l)) H' G' σ' env') : Fr H G σ env H' G' σ' (unlk i env') where
  hk := fun a o h n => f.hk a o h fun m => n (lock_mt m)
  gk := f.gk
  gn := fun a o h g n => f.gn a o h g fun m => n (lock_mt m)
  mm := fun a o h m => by
    have hi : i < env.length := (List.getElem?_eq_some_iff.mp e).1
    rcases unlk_cases (i := i) (env := env') with ⟨l', e3, q⟩ | q
    · rw [q] at m
      obtain ⟨j, s, e1, hm, m⟩ := m
      rcases set_look e1 with ⟨rfl, rfl⟩ | ⟨w, e2⟩
      · obtain ⟨s0, h0, w0, _, ef⟩ := f.lk j (.lk l') rfl e3
        have w0 : s0 = .lk l' := w0
        refine ⟨j, _, e, rfl, ?_⟩
        rw [← ef w0 rfl]
        exact m
      · exact lock_mt (f.mm a o h ⟨j, s, e2, hm, m⟩)
    · rw [q] at m
      exact lock_mt (f.mm a o h m)
  lk := fun j t hf q => by
    have hi : i < env.length := (List.getElem?_eq_some_iff.mp e).1
    have q' : env'[j]? = some t ∧ i ≠ j := by
      rcases unlk_cases (i := i) (env := env') with ⟨l', e3, z⟩ | z
      · rw [z] at q
        rcases set_look q with ⟨rfl, rfl⟩ | ⟨w, e2⟩
        · cases hf
        · exact ⟨e2, w⟩
      · rw [z] at q
        refine ⟨q, fun w => ?_⟩
        subst w
        obtain ⟨s0, h0, w0, _⟩ := f.lk i t hf q
        rw [List.getElem?_set_self hi] at h0
        cases h0
        cases t with
        | lk l' =>
          have z2 : unlk i env' = env'.set i (.ow l') := by unfold unlk; rw [q]
          rw [z2] at z
          have : (env'.set i (.ow l'))[i]? = some (.ow l') := List.getElem?_set_self (List.getElem?_eq_some_iff.mp q).1
          rw [z, q] at this
          cases this
        | io o => obtain ⟨o', w0⟩ := w0; cases w0
        | bo l' => cases w0
        | _ => cases hf
    obtain ⟨s0, h0, w0, es, ef⟩ := f.lk j t hf q'.1
    rw [List.getElem?_set_ne q'.2] at h0
    exact ⟨s0, h0, w0, es, ef⟩
theorem unlk_fre {a : Addr} (f : Fre G env a) : Fre G (unlk i env) a := fun j s e m => by
  rcases unlk_cases (i := i) (env := env) with ⟨l', e3, q⟩ | q
  · rw [q] at e
    rcases set_look e with ⟨rfl, rfl⟩ | ⟨w, e2⟩
    · exact f j _ e3 m
    · exact f j s e2 m
  · rw [q] at e
    exact f j s e m
theorem lock_nw {a : Addr} {l : List D} (n : Nw H G (env.set i (.lk l)) a) : Nw H G env a := fun o h => lock_mt (n o h)
theorem rv_unlk {N N' : Addr → Prop} {v : V} {z : Rs} (h : ∀ c, N c → N' c) (rv : RV κ σ N H G env v z) : RV κ σ N' H G (unlk i env) v z := by
  cases z with
  | sh d => exact rv
  | ow l' =>
    obtain ⟨a, xs, h1, h2, h3, h4, h5, h6⟩ := rv
    exact ⟨a, xs, h1, h2, h3, h4, unlk_fre h5, h _ h6⟩
  | tr o =>
    obtain ⟨F, h1, h2⟩ := rv
    exact ⟨F, h1, fun a m => ⟨unlk_fre (h2 a m).1, h _ (h2 a m).2⟩⟩
theorem s_lock {st : Stmt} {m : Ss} {i : Nat} (h : PS X st (tS κ W m)) : PS X st (tS κ W (sLock i m)) := PS.imp h fun D σ H ⟨G, env, r, q⟩ => by
  unfold sLock at q
  split at q
  · rename_i l e
    refine ⟨G, _, r.locked e, ?_⟩
    cases w : m (env.set i (.lk l)) with
    | none => rw [w] at q; exact q
    | some o => cases o with
      | nx e1 => rw [w] at q; exact fun σ' H' G' r' f => q σ' H' G' r'.unlocked (f.unlocked e)
      | bk e1 => rw [w] at q; exact fun σ' H' G' r' f => q σ' H' G' r'.unlocked (f.unlocked e)
      | ct e1 => rw [w] at q; exact fun σ' H' G' r' f => q σ' H' G' r'.unlocked (f.unlocked e)
      | ex x e1 => rw [w] at q; exact fun c d σ' H' G' r' xr f => q c d σ' H' G' r'.unlocked xr (f.unlocked e)
      | rt z => rw [w] at q; exact fun v H' G' s rr f => q v H' G' s (rr.mono fun c n => lock_nw n) ⟨fun a o h n => f.hk a o h fun m => n (lock_mt m), f.gk, fun a o h g n => f.gn a o h g fun m => n (lock_mt m)⟩
      | rv z e1 => rw [w] at q; exact fun v σ' H' G' r' rv f => q v σ' H' G' r'.unlocked (rv_unlk (fun c n => lock_nw n) rv) (f.unlocked e)
  · exact ⟨G, env, r, q⟩
end

/-! ### methods of texts -/
def fM1 (f : List Nat → D → Option Rs) (mo me : Sm D) : Sm Rs := bnd mo fun x => match x with
  | .str w => bnd me fun y e => match f w y with
    | some z => some (.ok z e)
    | none => none
  | _ => fun _ => none
section
variable {X : Cx} {κ : Kx} {W : WX} {o e e2 : Expr} {mo me me2 : Sm D} {pos apos : Pos}
/-- a text's method, one argument -/
theorem v_m1 {id : String} {name : Str} {r : V → List V → Hp → VK → Prop} {f : List Nat → D → Option Rs} (slot : Slot "str" name id) (ty : typeOf (.builtin id) = pure (.type "method_descriptor")) (rule : MtR X id r) (hs : ∀ (W : WX) (σ : L2.St) (w : List Nat) (y : V) (dy : D) (z : Rs) (H : Hp) (G : Gh) (env : En) (Q : VK), f w dy = some z → Rep κ H G σ env → RBq κ H G y dy → EPost κ W (RV κ) σ H G env (some (.ok z env)) Q → r (.str (S w)) [y] H Q)
    (ho : PE X o (tX κ W (RB κ) mo)) (he : PE X e (tX κ W (RB κ) me)) (hst : starEach [e] X.env = [(false, eval e X.env)] := by rfl) (hbase : attributeBase o name X.env (eval o X.env) = eval o X.env := by rfl) (hline : (apos.endLine == pos.line) = true := by rfl) :
    PE X (.Call (.Attribute o name apos) [e] [] pos) (tX κ W (RV κ) (fM1 f mo me)) := PE.imp (pe_m1 slot ty rule ho he hst hbase hline) fun σ H Q ⟨G, env, rp, q⟩ => by
  refine bind_post rp q fun dx e1 x H1 G1 _ rp1 rx s1 f1 q1 => ?_
  cases dx with
  | str w =>
    refine ⟨⟨S w, RBq.str rx⟩, ?_⟩
    refine bind_post rp1 q1 fun dy e2 y H2 G2 _ rp2 ry s2 f2 q3 => ?_
    cases z : f w dy with
    | none => rw [z] at q3; exact q3.elim
    | some u =>
      rw [z] at q3
      rw [RBq.str rx]
      exact hs W σ w y dy u H2 G2 e2 Q z rp2 ry q3
  | _ => exact q1.elim
end
def opFind : List Nat → D → Option Rs
  | a, .str b => some (.sh (.int (Txt.find (S a) (S b))))
  | _, _ => none
def opStarts : List Nat → D → Option Rs
  | a, .str b => some (.sh (.bl (Txt.startswith (S a) (S b))))
  | _, _ => none
def opSplit : List Nat → D → Option Rs
  | a, .str b => if b.length ≠ 0 ∧ a.length ≤ szl then some (.ow ((Txt.split (S a) (S b)).map fun x => .str x.cps.toList)) else none
  | _, _ => none
def opPart : List Nat → D → Option Rs
  | a, .str b => if b.length ≠ 0 ∧ a.length ≤ szl then some (.sh (.tup [.str (Txt.partition (S a) (S b)).1.cps.toList, .str (Txt.partition (S a) (S b)).2.1.cps.toList, .str (Txt.partition (S a) (S b)).2.2.cps.toList])) else none
  | _, _ => none
def allStrs : List D → Option (List (List Nat))
  | [] => some []
  | .str w :: r => match allStrs r with
    | some l => some (w :: l)
    | none => none
  | _ :: _ => none
theorem allStrs_of : ∀ {l : List D} {ns : List (List Nat)}, allStrs l = some ns → l = ns.map D.str
  | [], _, e => by cases e; rfl
  | d :: r, ns, e => by
    cases d <;> try (cases e; done)
    rename_i i
    dsimp only [allStrs] at e
    cases h : allStrs r with
    | none => rw [h] at e; cases e
    | some l =>
      rw [h] at e
      cases e
      rw [allStrs_of h]
      rfl
theorem RpA.ofStrs {κ : Kx} {G : Hp} : ∀ {ns : List (List Nat)} {xs : List V}, RpA κ G xs (ns.map D.str) → xs = (ns.map S).map V.str
  | [], _, .nil => rfl
  | n :: r, _, .cons (.str _) t => by rw [RpA.ofStrs t]; rfl
def opJoin : List Nat → D → Option Rs
  | a, .lst l => match allStrs l with
    | some ws => if (ws.map List.length).sum + ws.length * a.length ≤ szl then some (.sh (.str (Txt.join (S a) (ws.map S)).cps.toList)) else none
    | none => none
  | _, _ => none
theorem rp_S {κ : Kx} {G : Hp} (x : Str) : Rp κ G (.str x) (.str x.cps.toList) := by
  have := Rp.str (κ := κ) (G := G) x.cps.toList
  rw [S_list] at this
  exact this
theorem rpa_Ss {κ : Kx} {G : Hp} : ∀ xs : List Str, RpA κ G (xs.map V.str) (xs.map fun x => D.str x.cps.toList)
  | [] => .nil
  | x :: r => .cons (rp_S x) (rpa_Ss r)
section
variable {X : Cx} {κ : Kx} {W : WX} {o e e2 : Expr} {mo me me2 : Sm D} {pos apos : Pos}
theorem v_starts (ho : PE X o (tX κ W (RB κ) mo)) (he : PE X e (tX κ W (RB κ) me)) (hst : starEach [e] X.env = [(false, eval e X.env)] := by rfl) (hbase : attributeBase o "startswith" X.env (eval o X.env) = eval o X.env := by rfl) (hline : (apos.endLine == pos.line) = true := by rfl) :
    PE X (.Call (.Attribute o "startswith" apos) [e] [] pos) (tX κ W (RV κ) (fM1 opStarts mo me)) := v_m1 PySem.F.slot_str_startswith PySem.F.type_str_startswith mt_startswith (fun W σ w y dy z H G env Q e r ry q => by
  cases dy <;> try (cases e; done)
  cases e
  exact ⟨_, _, rfl, by rw [ry.str], post_sh r (.bl _) q⟩) ho he hst hbase hline
theorem v_split (ho : PE X o (tX κ W (RB κ) mo)) (he : PE X e (tX κ W (RB κ) me)) (hst : starEach [e] X.env = [(false, eval e X.env)] := by rfl) (hbase : attributeBase o "split" X.env (eval o X.env) = eval o X.env := by rfl) (hline : (apos.endLine == pos.line) = true := by rfl) :
    PE X (.Call (.Attribute o "split" apos) [e] [] pos) (tX κ W (RV κ) (fM1 opSplit mo me)) := v_m1 PySem.F.slot_str_split PySem.F.type_str_split mt_split (fun W σ w y dy z H G env Q e r ry q => by
  cases dy <;> try (cases e; done)
  dsimp only [opSplit] at e
  split at e
  · rename_i b h
    cases e
    refine ⟨_, _, rfl, by rw [ry.str], by rw [S_len]; simpa using h.1, by rw [S_len]; have := szl_le h.2; have e2 : sizeLine = 16777216 := sizeLine_eq; have h3 : w.length ≤ 1000000 := h.2; omega, fun p hp => post_ow r hp (rpa_Ss _) q⟩
  · cases e) ho he hst hbase hline
theorem v_part (ho : PE X o (tX κ W (RB κ) mo)) (he : PE X e (tX κ W (RB κ) me)) (hst : starEach [e] X.env = [(false, eval e X.env)] := by rfl) (hbase : attributeBase o "partition" X.env (eval o X.env) = eval o X.env := by rfl) (hline : (apos.endLine == pos.line) = true := by rfl) :
    PE X (.Call (.Attribute o "partition" apos) [e] [] pos) (tX κ W (RV κ) (fM1 opPart mo me)) := v_m1 PySem.F.slot_str_partition PySem.F.type_str_partition mt_partition (fun W σ w y dy z H G env Q e r ry q => by
  cases dy <;> try (cases e; done)
  dsimp only [opPart] at e
  split at e
  · rename_i b h
    cases e
    refine ⟨_, _, rfl, by rw [ry.str], by rw [S_len]; simpa using h.1, by rw [S_len]; exact szl_le h.2, fun p hp => post_tup r hp (.cons (rp_S _) (.cons (rp_S _) (.cons (rp_S _) .nil))) q⟩
  · cases e) ho he hst hbase hline
theorem v_join (ho : PE X o (tX κ W (RB κ) mo)) (he : PE X e (tX κ W (RB κ) me)) (hst : starEach [e] X.env = [(false, eval e X.env)] := by rfl) (hbase : attributeBase o "join" X.env (eval o X.env) = eval o X.env := by rfl) (hline : (apos.endLine == pos.line) = true := by rfl) :
    PE X (.Call (.Attribute o "join" apos) [e] [] pos) (tX κ W (RV κ) (fM1 opJoin mo me)) := v_m1 PySem.F.slot_str_join PySem.F.type_str_join mt_join (fun W σ w y dy z H G env Q e r ry q => by
  cases dy <;> try (cases e; done)
  rename_i l
  dsimp only [opJoin] at e
  cases h : allStrs l with
  | none => rw [h] at e; cases e
  | some ws =>
    rw [h] at e
    dsimp only at e
    split at e
    · rename_i hl
      cases e
      rw [allStrs_of h] at ry
      obtain ⟨p, xs, rfl, h1, h2⟩ := ry.lst r.sub
      rw [RpA.ofStrs h2] at h1
      refine ⟨S w, p, ws.map S, rfl, rfl, .inl (SqL.of h1), ?_, post_sh r (rp_S _) q⟩
      have e1 : ((ws.map S).map fun x => x.length) = ws.map List.length := by
        rw [List.map_map]
        exact List.map_congr_left fun x _ => S_len x
      rw [e1, List.length_map, S_len]
      have : (ws.map List.length).sum + ws.length * w.length ≤ 1000000 := hl
      omega
    · cases e) ho he hst hbase hline
end
/-! ### kinds -/
/-- isinstance(x, int) and its like -/
inductive Kd where
  | int | bool | str | list | tuple
def Kd.nm : Kd → String
  | .int => "int" | .bool => "bool" | .str => "str" | .list => "list" | .tuple => "tuple"
def isKd : D → Kd → Option Bool
  | .non, _ => some false
  | .bl _, .int => some true
  | .bl _, .bool => some true
  | .bl _, _ => some false
  | .int _, .int => some true
  | .int _, _ => some false
  | .str _, .str => some true
  | .str _, _ => some false
  | .lst _, .list => some true
  | .lst _, _ => some false
  | .tup _, .tuple => some true
  | .tup _, _ => some false
  | _, _ => none
def fIsi (m : Sm D) (k : Kd) : Sm D := bnd m fun d e => match isKd d k with
  | some b => some (.ok (.bl b) e)
  | none => none
section
variable {X : Cx} {κ : Kx} {W : WX} {o e : Expr} {mo : Sm D} {pos p p2 : Pos}
end
/-! ### defs -/
inductive FO where
  | rt (r : Rs) | ex (x : Ex)
abbrev FSem := List D → Option FO
/-- .. of a def that is handed a thing to be changed -/
inductive FOI where
  | rt (r : Rs) (o : O) | ex (x : Ex) (o : O)
abbrev FSemI := O → List D → Option FOI
def RF (κ : Kx) (H H' G' : Hp) (v : V) : Rs → Prop
  | .sh d => Rp κ G' v d
  | .ow l => ∃ a xs, v = .ref a ∧ H a = none ∧ H' a = some (.lst xs) ∧ G' a = none ∧ RpA κ G' xs l
  | .tr o => ∃ F, RO κ H' G' v o F ∧ ∀ a, a ∈ F → H a = none
def FPost (κ : Kx) (H G : Hp) (o : Option FO) (Q : VK) (E : XK) : Prop := match o with
  | none => False
  | some (.rt r) => ∀ v H' G', Grw H H' → Same G G' → Sub κ G' H' → (∀ a o, H a = some o → G a = none → G' a = none) → RF κ H H' G' v r → Q v H'
  | some (.ex x) => ∀ c d H' G', Grw H H' → Same G G' → Sub κ G' H' → (∀ a o, H a = some o → G a = none → G' a = none) → XR κ G' x c d → E c d H'
def spV (κ : Kx) (ms : List Bool) (g : FSem) : Sp := fun vs H Q E => ∃ G ds, Sub κ G H ∧ RBs κ H G ms vs ds ∧ FPost κ H G (g ds) Q E
/-- what a thing at F has become -/
structure Chg (κ : Kx) (H G : Hp) (F : List Addr) (H' G' : Hp) : Prop where
  hk : ∀ a z, H a = some z → a ∉ F → ∃ o', H' a = some o' ∧ (nt z → o' = z)
  gk : Same G G'
  sub : Sub κ G' H'
  gn : ∀ a z, H a = some z → G a = none → a ∉ F → G' a = none
def RFI (κ : Kx) (H H' G' : Hp) (F F' : List Addr) (v : V) : Rs → Prop
  | .sh d => Rp κ G' v d
  | .ow l => ∃ a xs, v = .ref a ∧ (a ∈ F ∨ H a = none) ∧ a ∉ F' ∧ H' a = some (.lst xs) ∧ G' a = none ∧ RpA κ G' xs l
  | .tr o => ∃ F2, RO κ H' G' v o F2 ∧ ∀ a, a ∈ F2 → (a ∈ F ∨ H a = none) ∧ a ∉ F'
def FPostI (κ : Kx) (H G : Hp) (u : V) (F : List Addr) (o : Option FOI) (Q : VK) (E : XK) : Prop := match o with
  | none => False
  | some (.rt r o') => ∀ v H' G' F', Chg κ H G F H' G' → RO κ H' G' u o' F' → (∀ a, a ∈ F' → a ∈ F ∨ H a = none) → RFI κ H H' G' F F' v r → Q v H'
  | some (.ex x o') => ∀ c d H' G' F', Chg κ H G F H' G' → RO κ H' G' u o' F' → (∀ a, a ∈ F' → a ∈ F ∨ H a = none) → XR κ G' x c d → E c d H'
def insA {α : Type} : Nat → α → List α → List α
  | 0, x, l => x :: l
  | _ + 1, x, [] => [x]
  | n + 1, x, y :: l => y :: insA n x l
theorem insA_len {α : Type} (x : α) : ∀ (p : Nat) (l : List α), (insA p x l).length = l.length + 1
  | 0, l => rfl
  | p + 1, [] => rfl
  | p + 1, y :: l => by simp only [insA, List.length_cons, insA_len x p l]
theorem insA_at {α : Type} (x : α) : ∀ (p : Nat) (l : List α), p ≤ l.length → (insA p x l)[p]? = some x
  | 0, l, _ => rfl
  | p + 1, [], h => by simp at h
  | p + 1, y :: l, h => by simpa only [insA, List.getElem?_cons_succ] using insA_at x p l (by simpa using h)
/-- borrowed arguments lie apart from F -/
inductive RBx (κ : Kx) (H G : Hp) (F : List Addr) : List Bool → List V → List D → Prop
  | nil : RBx κ H G F [] [] []
  | sh {ms : List Bool} {v : V} {vs : List V} {d : D} {ds : List D} : Rp κ G v d → RBx κ H G F ms vs ds → RBx κ H G F (false :: ms) (v :: vs) (d :: ds)
  | bo {ms : List Bool} {v : V} {vs : List V} {d : D} {ds : List D} : (Rp κ G v d ∨ ∃ a xs l, d = .lst l ∧ v = .ref a ∧ H a = some (.lst xs) ∧ RpA κ G xs l ∧ a ∉ F) → RBx κ H G F ms vs ds → RBx κ H G F (true :: ms) (v :: vs) (d :: ds)
def spI (κ : Kx) (p : Nat) (ms : List Bool) (g : FSemI) : Sp := fun vs H Q E => ∃ G v us ds o F, vs = insA p v us ∧ p ≤ ms.length ∧ Sub κ G H ∧ RO κ H G v o F ∧ RBx κ H G F ms us ds ∧ FPostI κ H G v F (g o ds) Q E
theorem RBs.len {κ : Kx} {H G : Hp} : ∀ {ms : List Bool} {vs : List V} {ds : List D}, RBs κ H G ms vs ds → vs.length = ms.length ∧ ds.length = ms.length
  | _, _, _, .nil => ⟨rfl, rfl⟩
  | _, _, _, .sh _ t => by simp [t.len.1, t.len.2]
  | _, _, _, .bo _ t => by simp [t.len.1, t.len.2]
theorem RBx.len {κ : Kx} {H G : Hp} {F : List Addr} : ∀ {ms : List Bool} {vs : List V} {ds : List D}, RBx κ H G F ms vs ds → vs.length = ms.length ∧ ds.length = ms.length
  | _, _, _, .nil => ⟨rfl, rfl⟩
  | _, _, _, .sh _ t => by simp [t.len.1, t.len.2]
  | _, _, _, .bo _ t => by simp [t.len.1, t.len.2]
theorem RBs.x {κ : Kx} {H G : Hp} {F : List Addr} (h : ∀ a, a ∈ F → H a = none) : ∀ {ms : List Bool} {vs : List V} {ds : List D}, RBs κ H G ms vs ds → RBx κ H G F ms vs ds
  | _, _, _, .nil => .nil
  | _, _, _, .sh r t => .sh r (RBs.x h t)
  | _, _, _, .bo (.inl r) t => .bo (.inl r) (RBs.x h t)
  | _, _, _, .bo (.inr ⟨a, xs, l, h1, h2, h3, h4⟩) t => .bo (.inr ⟨a, xs, l, h1, h2, h3, h4, fun m => by rw [h a m] at h3; cases h3⟩) (RBs.x h t)
theorem RBx.mono {κ : Kx} {H G H' G' : Hp} {F : List Addr} (h : Grw H H') (g : Same G G') : ∀ {ms : List Bool} {vs : List V} {ds : List D}, RBx κ H G F ms vs ds → RBx κ H' G' F ms vs ds
  | _, _, _, .nil => .nil
  | _, _, _, .sh r t => .sh (r.mono g) (RBx.mono h g t)
  | _, _, _, .bo (.inl r) t => .bo (.inl (r.mono g)) (RBx.mono h g t)
  | _, _, _, .bo (.inr ⟨a, xs, l, h1, h2, h3, h4, h5⟩) t => .bo (.inr ⟨a, xs, l, h1, h2, h.at h3, h4.mono g, h5⟩) (RBx.mono h g t)
theorem RpA.x {κ : Kx} {H G : Hp} {F : List Addr} : ∀ {ms : List Bool} {vs : List V} {ds : List D}, ms.length = vs.length → RpA κ G vs ds → RBx κ H G F ms vs ds
  | [], _, _, _, .nil => .nil
  | [], _, _, h, .cons _ _ => by cases h
  | _ :: _, _, _, h, .nil => by cases h
  | false :: ms, _, _, h, .cons r t => .sh r (RpA.x (by simpa using h) t)
  | true :: ms, _, _, h, .cons r t => .bo (.inl r) (RpA.x (by simpa using h) t)
def bof : D → Sl
  | .lst l => .bo l
  | d => .sh d
def inis : List Bool → List D → En
  | true :: ms, d :: ds => bof d :: inis ms ds
  | false :: ms, d :: ds => .sh d :: inis ms ds
  | _, _ => []
def runDef (ms : List Bool) (k : Nat) (body : Ss) : FSem := fun ds => match body (inis ms ds ++ List.replicate k .un) with
  | some (.nx _) => some (.rt (.sh .non))
  | some (.rt r) => some (.rt r)
  | some (.ex x _) => some (.ex x)
  | _ => none
def ioAt (e : En) (p : Nat) : Option O := match e[p]? with
  | some (.io o) => some o
  | _ => none
def runDefI (p : Nat) (ms : List Bool) (k : Nat) (body : Ss) : FSemI := fun o ds => match body (insA p (.io o) (inis ms ds) ++ List.replicate k .un) with
  | some (.nx e) => match ioAt e p with
    | some o' => some (.rt (.sh .non) o')
    | none => none
  | some (.rv r e) => match ioAt e p with
    | some o' => some (.rt r o')
    | none => none
  | some (.ex x e) => match ioAt e p with
    | some o' => some (.ex x o')
    | none => none
  | _ => none
section
variable {κ : Kx} {H G : Hp}
/-- a slot at a def's start -/
def SlIn (κ : Kx) (H G : Hp) (F : List Addr) (v : Option V) : Sl → Prop
  | .un => True
  | .sh d => ∃ x, v = some x ∧ Rp κ G x d
  | .bo l => ∃ a xs, v = some (.ref a) ∧ H a = some (.lst xs) ∧ RpA κ G xs l ∧ a ∉ F
  | .io o => ∃ x, v = some x ∧ RO κ H G x o F
  | _ => False
theorem bof_in {F : List Addr} {v : V} {d : D} (s : Same G H) (hF : ∀ a, a ∈ F → G a = none) (r : Rp κ G v d ∨ ∃ a xs l, d = .lst l ∧ v = .ref a ∧ H a = some (.lst xs) ∧ RpA κ G xs l ∧ a ∉ F) : SlIn κ H G F (some v) (bof d) := by
  rcases r with r | ⟨a, xs, l, rfl, rfl, h3, h4, h5⟩
  · cases r with
    | lst h1 h2 => exact ⟨_, _, rfl, s _ _ h1, h2, fun m => by rw [hF _ m] at h1; cases h1⟩
    | non => exact ⟨_, rfl, .non⟩
    | bl b => exact ⟨_, rfl, .bl b⟩
    | int b => exact ⟨_, rfl, .int b⟩
    | str b => exact ⟨_, rfl, .str b⟩
    | tup h1 h2 => exact ⟨_, rfl, .tup h1 h2⟩
    | ob h1 h2 h3 => exact ⟨_, rfl, .ob h1 h2 h3⟩
    | scr h1 => exact ⟨_, rfl, .scr h1⟩
    | xn h1 => exact ⟨_, rfl, .xn h1⟩
  · exact ⟨a, xs, rfl, h3, h4, h5⟩
theorem inis_in {F : List Addr} (s : Same G H) (hF : ∀ a, a ∈ F → G a = none) : ∀ {ms : List Bool} {vs : List V} {ds : List D}, RBx κ H G F ms vs ds → ∀ (i : Nat) (z : Sl), (inis ms ds)[i]? = some z → SlIn κ H G F vs[i]? z ∧ ∀ o, z ≠ .io o
  | _, _, _, .nil, i, z, e => by simp [inis] at e
  | _, _, _, .sh r t, 0, z, e => by
    simp only [inis, List.getElem?_cons_zero, Option.some.injEq] at e
    subst e
    exact ⟨⟨_, rfl, r⟩, fun o q => nomatch q⟩
  | _, _, _, .bo r t, 0, z, e => by
    simp only [inis, List.getElem?_cons_zero, Option.some.injEq] at e
    subst e
    refine ⟨bof_in s hF r, fun o => ?_⟩
    unfold bof
    split <;> exact (fun z => nomatch z)
  | _, _, _, .sh r t, i + 1, z, e => by
    simp only [inis, List.getElem?_cons_succ] at e
    simpa only [List.getElem?_cons_succ] using inis_in s hF t i z e
  | _, _, _, .bo r t, i + 1, z, e => by
    simp only [inis, List.getElem?_cons_succ] at e
    simpa only [List.getElem?_cons_succ] using inis_in s hF t i z e
theorem inis_len : ∀ {ms : List Bool} {ds : List D}, ds.length = ms.length → (inis ms ds).length = ms.length
  | [], [], _ => rfl
  | [], _ :: _, h => by cases h
  | _ :: _, [], h => by cases h
  | true :: ms, d :: ds, h => by
    simp only [inis, List.length_cons]
    rw [inis_len (by simpa using h)]
  | false :: ms, d :: ds, h => by
    simp only [inis, List.length_cons]
    rw [inis_len (by simpa using h)]
/-- the addresses of the slots at the start -/
def fpS (F : List Addr) (env : En) (vs : List V) : Nat → List Addr := fun j => match env[j]? with
  | some (.bo _) => match vs[j]? with
    | some (.ref a) => [a]
    | _ => []
  | some (.io _) => F
  | _ => []
theorem rep_in {N : List Str} {vs : List V} {env0 : En} {k : Nat} {F : List Addr} (s : Sub κ G H) (hl : env0.length = vs.length) (hk : N.length = vs.length + k) (h : ∀ (i : Nat) (z : Sl), env0[i]? = some z → SlIn κ H G F vs[i]? z) (hu : ∀ (i j : Nat) (o o' : O), env0[i]? = some (Sl.io o) → env0[j]? = some (Sl.io o') → i = j) :
    Rep κ H ⟨G, fpS F (env0 ++ List.replicate k .un) vs⟩ (start N vs) (env0 ++ List.replicate k .un) := by
  have look : ∀ {i : Nat} {z : Sl}, (env0 ++ List.replicate k Sl.un)[i]? = some z → (i < vs.length ∧ env0[i]? = some z) ∨ z = .un := fun {i z} e => by
    by_cases hi : i < env0.length
    · rw [List.getElem?_append_left hi] at e
      exact .inl ⟨by omega, e⟩
    · rw [List.getElem?_append_right (by omega)] at e
      have := List.mem_of_getElem? e
      rw [List.mem_replicate] at this
      exact .inr this.2
  have st : ∀ {i : Nat}, i < vs.length → (start N vs)[i]? = (vs[i]?).map some := fun {i} hi => by
    unfold L2.start
    rw [List.getElem?_append_left (by rw [List.length_map]; exact hi), List.getElem?_map]
  refine ⟨s, ?_, fun i z e => ?_, fun i j a t ⟨s1, o, e1, t1, m1⟩ e2 m2 => ?_⟩
  · unfold L2.start
    rw [List.length_append, List.length_append, List.length_map, List.length_replicate, List.length_replicate]
    omega
  · show RSl κ H G _ (fpS F _ vs i) z
    rcases look e with ⟨hi, e2⟩ | rfl
    · have q := h i z e2
      rw [st hi]
      cases z with
      | un => show fpS F _ vs i = []; unfold fpS; rw [e]
      | sh d =>
        obtain ⟨x, h1, h2⟩ := q
        rw [h1]
        exact ⟨by unfold fpS; rw [e], x, rfl, h2⟩
      | bo l =>
        obtain ⟨a, xs, h1, h2, h3, h4⟩ := q
        rw [h1]
        exact ⟨a, xs, rfl, h2, h3, by unfold fpS; rw [e]; dsimp only; rw [h1]⟩
      | io o =>
        obtain ⟨x, h1, h2⟩ := q
        rw [h1]
        refine ⟨x, rfl, ?_⟩
        have : fpS F (env0 ++ List.replicate k Sl.un) vs i = F := by unfold fpS; rw [e]
        rw [this]
        exact h2
      | _ => exact q.elim
    · show fpS F _ vs i = []; unfold fpS; rw [e]
  · have m1 : a ∈ fpS F (env0 ++ List.replicate k Sl.un) vs i := m1
    have m2 : a ∈ fpS F (env0 ++ List.replicate k Sl.un) vs j := m2
    unfold fpS at m1 m2
    rw [e1] at m1
    rw [e2] at m2
    rcases look e1 with ⟨hi, e1'⟩ | rfl
    · have q1 := h i s1 e1'
      cases s1 with
      | io o1 =>
        rcases look e2 with ⟨hj, e2'⟩ | rfl
        · have q2 := h j t e2'
          cases t with
          | io o2 => exact hu i j _ _ e1' e2'
          | bo l =>
            obtain ⟨b, xs, h1, h2, h3, h4⟩ := q2
            dsimp only at m2
            rw [h1] at m2
            rw [List.mem_singleton.mp m2] at m1
            exact absurd m1 h4
          | _ => cases m2
        · cases m2
      | un => cases t1
      | sh d => cases t1
      | bo l => cases t1
      | _ => exact q1.elim
    · cases t1
theorem mt_start {vs : List V} {env0 : En} {k : Nat} {F : List Addr} {a : Addr} (m : Mt ⟨G, fpS F (env0 ++ List.replicate k .un) vs⟩ (env0 ++ List.replicate k .un) a) (h : ∀ (i : Nat) (z : Sl), env0[i]? = some z → SlIn κ H G F vs[i]? z) : a ∈ F ∧ ∃ (i : Nat) (o : O), env0[i]? = some (Sl.io o) := by
  obtain ⟨i, s, e, hm, m⟩ := m
  have m : a ∈ fpS F (env0 ++ List.replicate k Sl.un) vs i := m
  by_cases hi : i < env0.length
  · have e2 := e
    rw [List.getElem?_append_left hi] at e2
    have q := h i s e2
    unfold fpS at m
    rw [e] at m
    cases s with
    | io o => exact ⟨m, i, o, e2⟩
    | ow l => exact q.elim
    | tr o => exact q.elim
    | _ => cases hm
  · rw [List.getElem?_append_right (by omega)] at e
    have := List.mem_of_getElem? e
    rw [List.mem_replicate] at this
    rw [this.2] at hm
    cases hm
/-- the end of a def's proof -/
theorem v_end {N : List Str} {ms : List Bool} {k : Nat} {body : Ss} {vs : List V} {Q : VK} {E : XK} (hk : N.length = ms.length + k) (h : spV κ ms (runDef ms k body) vs H Q E) :
    tS κ (fun c d _ H' => E c d H') body { nx := fun _ H' => Q .non H', rt := Q } (start N vs) H := by
  obtain ⟨G, ds, s, r, q⟩ := h
  obtain ⟨l1, l2⟩ := r.len
  have rx := r.x (F := []) fun a m => by cases m
  have hin : ∀ (i : Nat) (z : Sl), (inis ms ds)[i]? = some z → SlIn κ H G [] vs[i]? z ∧ ∀ o, z ≠ .io o := inis_in s (fun a m => by cases m) rx
  have rp := rep_in (N := N) (k := k) (F := []) s (by rw [inis_len l2, l1]) (by rw [l1]; exact hk) (fun i z e => (hin i z e).1) fun i j o o' e _ => ((hin i _ e).2 o rfl).elim
  have nm : ∀ a, ¬ Mt ⟨G, fpS [] (inis ms ds ++ List.replicate k .un) vs⟩ (inis ms ds ++ List.replicate k .un) a := fun a m => by
    obtain ⟨m, _⟩ := mt_start m fun i z e => (hin i z e).1
    cases m
  refine ⟨_, _, rp, ?_⟩
  unfold runDef at q
  cases z : body (inis ms ds ++ List.replicate k Sl.un) with
  | none => rw [z] at q; exact q
  | some o => cases o with
    | nx e =>
      rw [z] at q
      exact fun σ' H' G' r' f => q .non H' G' (fun a o h => f.hk a o h (nm a)) f.gk r'.sub (fun a o h g => f.gn a o h g (nm a)) .non
    | bk e => rw [z] at q; exact q.elim
    | ct e => rw [z] at q; exact q.elim
    | rv r e => rw [z] at q; exact q.elim
    | rt x =>
      rw [z] at q
      intro v H' G' s' rr f
      refine q v H' G' (fun a o h => f.hk a o h (nm a)) f.gk s' (fun a o h g => f.gn a o h g (nm a)) ?_
      have fresh : ∀ a, Nw H ⟨G, fpS [] (inis ms ds ++ List.replicate k .un) vs⟩ (inis ms ds ++ List.replicate k .un) a → H a = none := fun a n => by
        cases w : H a with
        | none => rfl
        | some o => exact (nm a (n o w)).elim
      cases x with
      | sh d => exact rr
      | ow l =>
        obtain ⟨a, xs, h1, h2, h3, h4, h5⟩ := rr
        exact ⟨a, xs, h1, fresh a h5, h2, h3, h4⟩
      | tr o =>
        obtain ⟨F, h1, h2⟩ := rr
        exact ⟨F, h1, fun a m => fresh a (h2 a m)⟩
    | ex x e =>
      rw [z] at q
      exact fun c d σ' H' G' r' xr f => q c d H' G' (fun a o h => f.hk a o h (nm a)) f.gk r'.sub (fun a o h g => f.gn a o h g (nm a)) xr
theorem insA_cases {α : Type} {x z : α} : ∀ {p : Nat} {l : List α} {i : Nat}, p ≤ l.length → (insA p x l)[i]? = some z → (i = p ∧ z = x) ∨ (i ≠ p ∧ ∃ j : Nat, l[j]? = some z ∧ ∀ {β : Type} (y : β) (k : List β), k.length = l.length → (insA p y k)[i]? = k[j]?)
  | 0, l, 0, _, e => .inl ⟨rfl, by simpa [insA] using e.symm⟩
  | 0, l, i + 1, _, e => .inr ⟨by omega, i, by simpa [insA] using e, fun y k _ => by simp [insA]⟩
  | p + 1, [], i, h, e => by simp at h
  | p + 1, y :: l, 0, h, e => .inr ⟨by omega, 0, by simpa [insA] using e, fun w k hk => by
    cases k with
    | nil => simp at hk
    | cons c k => simp [insA]⟩
  | p + 1, y :: l, i + 1, h, e => by
    have e' : (insA p x l)[i]? = some z := by simpa [insA] using e
    rcases insA_cases (by simpa using h) e' with ⟨h1, h2⟩ | ⟨h1, j, h2, h3⟩
    · exact .inl ⟨by omega, h2⟩
    · refine .inr ⟨by omega, j + 1, by simpa using h2, fun w k hk => ?_⟩
      cases k with
      | nil => simp at hk
      | cons c k => simpa [insA] using h3 w k (by simpa using hk)
/-- .. of a def that is handed a thing to be changed -/
theorem v_endI {N : List Str} {p : Nat} {ms : List Bool} {k : Nat} {body : Ss} {vs : List V} {Q : VK} {E : XK} (hk : N.length = ms.length + 1 + k) (h : spI κ p ms (runDefI p ms k body) vs H Q E) :
    tS κ (fun c d _ H' => E c d H') body { nx := fun _ H' => Q .non H', rt := Q } (start N vs) H := by
  obtain ⟨G, v0, us, ds, o, F, rfl, hp, s, ro, rx, q⟩ := h
  obtain ⟨l1, l2⟩ := rx.len
  have li := inis_len l2
  have hin := inis_in s (fun a m => (ro.own m).2) rx
  have hin2 : ∀ (i : Nat) (z : Sl), (insA p (Sl.io o) (inis ms ds))[i]? = some z → SlIn κ H G F (insA p v0 us)[i]? z ∧ (i = p ∨ ∀ o, z ≠ .io o) := fun i z e => by
    rcases insA_cases (by rw [li]; exact hp) e with ⟨rfl, rfl⟩ | ⟨h1, j, h2, h3⟩
    · exact ⟨⟨v0, insA_at v0 _ us (by rw [l1]; exact hp), ro⟩, .inl rfl⟩
    · rw [h3 v0 us (by rw [l1, li])]
      exact ⟨(hin j z h2).1, .inr (hin j z h2).2⟩
  have rp := rep_in (N := N) (k := k) (F := F) (vs := insA p v0 us) (env0 := insA p (.io o) (inis ms ds)) s (by rw [insA_len, insA_len, li, l1]) (by rw [insA_len, l1]; exact hk) (fun i z e => (hin2 i z e).1) fun i j o1 o2 e1 e2 => by
    rcases (hin2 i _ e1).2 with h1 | h1
    · rcases (hin2 j _ e2).2 with h2 | h2
      · exact h1.trans h2.symm
      · exact (h2 _ rfl).elim
    · exact (h1 _ rfl).elim
  have mf : ∀ a, Mt ⟨G, fpS F (insA p (.io o) (inis ms ds) ++ List.replicate k .un) (insA p v0 us)⟩ (insA p (.io o) (inis ms ds) ++ List.replicate k .un) a → a ∈ F := fun a m => (mt_start m fun i z e => (hin2 i z e).1).1
  have sp : (start N (insA p v0 us))[p]? = some (some v0) := by
    unfold L2.start
    rw [List.getElem?_append_left (by rw [List.length_map, insA_len, l1]; omega), List.getElem?_map, insA_at v0 p us (by rw [l1]; exact hp)]
    rfl
  refine ⟨_, _, rp, ?_⟩
  generalize hG0 : (⟨G, fpS F (insA p (Sl.io o) (inis ms ds) ++ List.replicate k .un) (insA p v0 us)⟩ : Gh) = G0 at rp mf ⊢
  have g0 : G0.g = G := by rw [← hG0]
  have chg : ∀ {σ' : L2.St} {H' : Hp} {G' : Gh} {e : En} {o' : O}, Rep κ H' G' σ' e → Fr H G0 (start N (insA p v0 us)) (insA p (.io o) (inis ms ds) ++ List.replicate k .un) H' G' σ' e → ioAt e p = some o' →
      Chg κ H G F H' G' ∧ RO κ H' G' v0 o' (G'.fp p) ∧ ∀ a, a ∈ G'.fp p → a ∈ F ∨ H a = none := fun {σ' H' G' e o'} r' f hio => by
    have ep : e[p]? = some (.io o') := by
      unfold ioAt at hio
      split at hio
      · rename_i o2 h2; cases hio; exact h2
      · cases hio
    obtain ⟨s0, h0, w0, es, _⟩ := f.lk p (.io o') rfl ep
    obtain ⟨x, h1, h2⟩ := (r'.slot p _ ep).th (o := o') rfl
    rw [es, sp] at h1
    cases h1
    refine ⟨⟨fun a z h n => f.hk a z h fun m => n (mf a m), by rw [← g0]; exact f.gk, r'.sub, fun a z h g n => f.gn a z h (by rw [g0]; exact g) fun m => n (mf a m)⟩, h2, fun a m => ?_⟩
    cases w : H a with
    | none => exact .inr rfl
    | some z => exact .inl (mf a (f.mm a z w ⟨p, _, ep, rfl, m⟩))
  unfold runDefI at q
  cases z : body (insA p (Sl.io o) (inis ms ds) ++ List.replicate k Sl.un) with
  | none => rw [z] at q; exact q
  | some w => cases w with
    | nx e =>
      rw [z] at q
      intro σ' H' G' r' f
      dsimp only at q
      cases y : ioAt e p with
      | none => rw [y] at q; exact q.elim
      | some o' =>
        rw [y] at q
        obtain ⟨c1, c2, c3⟩ := chg r' f y
        exact q .non H' G' _ c1 c2 c3 .non
    | bk e => rw [z] at q; exact q.elim
    | ct e => rw [z] at q; exact q.elim
    | rt x => rw [z] at q; exact q.elim
    | rv x e =>
      rw [z] at q
      intro v σ' H' G' r' rv f
      dsimp only at q
      cases y : ioAt e p with
      | none => rw [y] at q; exact q.elim
      | some o' =>
        rw [y] at q
        obtain ⟨c1, c2, c3⟩ := chg r' f y
        have ep : e[p]? = some (.io o') := by
          unfold ioAt at y
          split at y
          · rename_i o2 h2; cases y; exact h2
          · cases y
        refine q v H' G' _ c1 c2 c3 ?_
        have nw : ∀ a, Nw H G0 (insA p (.io o) (inis ms ds) ++ List.replicate k .un) a → a ∈ F ∨ H a = none := fun a n => by
          cases w : H a with
          | none => exact .inr rfl
          | some z => exact .inl (mf a (n z w))
        cases x with
        | sh d => exact rv
        | ow l =>
          obtain ⟨a, xs, h1, h2, h3, h4, h5, h6⟩ := rv
          exact ⟨a, xs, h1, nw a h6, h5 p _ ep, h2, h3, h4⟩
        | tr o2 =>
          obtain ⟨F2, h1, h2⟩ := rv
          exact ⟨F2, h1, fun a m => ⟨nw a (h2 a m).2, (h2 a m).1 p _ ep⟩⟩
    | ex x e =>
      rw [z] at q
      intro c d σ' H' G' r' xr f
      dsimp only at q
      cases y : ioAt e p with
      | none => rw [y] at q; exact q.elim
      | some o' =>
        rw [y] at q
        obtain ⟨c1, c2, c3⟩ := chg r' f y
        exact q c d H' G' _ c1 c2 c3 xr
end
/-- a def of the module that keeps its function: callers need no more -/
structure VFn (P : Program) (w : World) (κ : Kx) (mg : Str → Option Value) (base : Heap) (x : Str) (k : Nat) (ms : List Bool) (g : FSem) : Prop where
  ex : ∃ (f : Addr) (fd : FuncData) (ps : List Str), mg x = some (.ref f) ∧ PySem.W.keepIn κ.K (.ref f) = true ∧ FnOk P w κ.K mg base (L2.CX P w) k f fd ps (spV κ ms g) ∧ Binds κ.K fd ps []
structure VFnI (P : Program) (w : World) (κ : Kx) (mg : Str → Option Value) (base : Heap) (x : Str) (k : Nat) (p : Nat) (ms : List Bool) (g : FSemI) : Prop where
  ex : ∃ (f : Addr) (fd : FuncData) (ps : List Str), mg x = some (.ref f) ∧ PySem.W.keepIn κ.K (.ref f) = true ∧ FnOk P w κ.K mg base (L2.CX P w) k f fd ps (spI κ p ms g) ∧ Binds κ.K fd ps []
def fCall (g : FSem) (m : Sm (List D)) : Sm Rs := bnd m fun ds e => match g ds with
  | some (.rt r) => some (.ok r e)
  | some (.ex x) => some (.ex x e)
  | none => none
/-- a thing that is changed, at a slot -/
def getO : Sl → Option O
  | .ow l => some (.ls l)
  | .io o => some o
  | .tr o => some o
  | _ => none
def setO : Sl → O → Sl
  | .io _, o => .io o
  | .ow _, .ls l => .ow l
  | _, o => .tr o
theorem getO_th {s : Sl} {o : O} (h : getO s = some o) : s.th = some o ∧ s.mut = true := by
  cases s <;> first
    | (cases h; done)
    | (cases h; exact ⟨rfl, rfl⟩)
theorem setO_th {s : Sl} {o : O} : (setO s o).th = some o ∧ (setO s o).mut = true := by
  cases s <;> cases o <;> exact ⟨rfl, rfl⟩
theorem setO_was {s : Sl} {o o' : O} (h : getO s = some o) : (setO s o').fix = true → (setO s o').was s := fun q => by
  cases s <;> first
    | (cases h; done)
    | exact ⟨_, rfl⟩
    | (cases o' <;> cases q)
def fCallI (i : Nat) (g : FSemI) (m : Sm (List D)) : Sm Rs := bnd m fun ds e => match e[i]? with
  | some s => match getO s with
    | some o => match g o ds with
      | some (.rt r o') => some (.ok r (e.set i (setO s o')))
      | some (.ex x o') => some (.ex x (e.set i (setO s o')))
      | none => none
    | none => none
  | none => none
section
variable {X : Cx} {κ : Kx} {W : WX} {e : Expr} {es : List Expr} {ms : List Bool} {g : FSem} {gI : FSemI} {mr : Sm (List D)} {k : Nat} {x : Str} {p pos : Pos}
theorem call_post {σ : L2.St} {H : Hp} {G : Gh} {env : En} {vs : List V} {ds : List D} {Q : VK} (r : Rep κ H G σ env) (rv : RBs κ H G ms vs ds) (q : EPost κ W (RV κ) σ H G env (match g ds with
  | some (.rt r) => some (.ok r env)
  | some (.ex x) => some (.ex x env)
  | none => none) Q) : spV κ ms g vs H Q (WE W σ) := by
  refine ⟨G.g, ds, r.sub, rv, ?_⟩
  have gr : ∀ {H' G' : Hp}, Grw H H' → Same G.g G' → Sub κ G' H' → (∀ a o, H a = some o → G.g a = none → G' a = none) → Rep κ H' ⟨G', G.fp⟩ σ env ∧ Fr H G σ env H' ⟨G', G.fp⟩ σ env := fun {H' G'} s g1 g2 gn =>
    ⟨r.grow (G' := ⟨G', G.fp⟩) s g1 g2 (fun _ => rfl) fun i a o => by
      obtain ⟨⟨u, h⟩, g0⟩ := r.own o
      exact gn a _ h g0, Fr.same s g1 (fun a o h g0 _ => gn a o h g0) (fun _ _ _ h => h) fun _ _ _ h => ⟨h, rfl⟩⟩
  cases z : g ds with
  | none => rw [z] at q; exact q
  | some o => cases o with
    | rt y =>
      rw [z] at q
      intro v H' G' s g1 g2 gn rf
      obtain ⟨r1, f1⟩ := gr s g1 g2 gn
      refine q v H' ⟨G', G.fp⟩ r1 ?_ s f1
      have fr : ∀ a, H a = none → Fre ⟨G', G.fp⟩ env a ∧ Nw H G env a := fun a h2 => ⟨r.fre h2, fun o h => by rw [h2] at h; cases h⟩
      cases y with
      | sh d => exact rf
      | ow l =>
        obtain ⟨a, xs, h1, h2, h3, h4, h5⟩ := rf
        exact ⟨a, xs, h1, h3, h4, h5, (fr a h2).1, (fr a h2).2⟩
      | tr o =>
        obtain ⟨F, h1, h2⟩ := rf
        exact ⟨F, h1, fun a m => fr a (h2 a m)⟩
    | ex y =>
      rw [z] at q
      intro c d H' G' s g1 g2 gn xr
      obtain ⟨r1, f1⟩ := gr s g1 g2 gn
      exact q c d H' ⟨G', G.fp⟩ r1 xr s f1
theorem v_call (F : VFn X.prog X.w κ X.mg X.base x k ms g) (hK : X.K = κ.K) (hr : Room k X.A) (tk : Takes X W) (hg : Gl X x) (ha : PA X (e :: es) (tX κ W (RA κ ms) mr)) (hdb : (x == ("__debug__" : Str)) = false := by decide)
    (he : starEach (e :: es) X.env = (false, eval e X.env) :: starEach es X.env := by rfl) (hpl : (backTo pos (starEach es X.env)).any (·.1) = false := by rfl) : PE X (.Call (.Name x p) (e :: es) [] pos) (tX κ W (RV κ) (fCall g mr)) := by
  obtain ⟨f, fd, ps, hm, hk, F1, hb⟩ := F.ex
  rw [← hK] at hk F1 hb
  refine PE.imp (pe_callS F1 hr hg hm hk hb (fun σ => passAt tk σ) ha hdb he hpl) fun σ H Q ⟨G, env, r, q⟩ => ?_
  exact bind_post r q fun d e1 vs H1 G1 em r1 rv s1 f1 q1 => call_post r1 rv q1
/-- all given away -/
def RAP (κ : Kx) : Rl (List D) (List V) := fun _ _ _ G _ vs ds => RpA κ G vs ds
instance : RlMono (RAP κ) := ⟨fun _ q => q⟩
theorem callI_post {σ : L2.St} {H : Hp} {G : Gh} {env : En} {us : List V} {v : V} {ds : List D} {i q0 : Nat} {s : Sl} {o : O} {Q : VK} (r : Rep κ H G σ env) (ei : env[i]? = some s) (hs : getO s = some o) (ev : σ[i]? = some (some v)) (hp : q0 ≤ ms.length) (rv : RBx κ H G (G.fp i) ms us ds) (q : EPostI κ W (RV κ) σ H G env (match gI o ds with
  | some (.rt r o') => some (.ok r (env.set i (setO s o')))
  | some (.ex x o') => some (.ex x (env.set i (setO s o')))
  | none => none) Q) : spI κ q0 ms gI (insA q0 v us) H Q (WE W σ) := by
  obtain ⟨v', h1, ro⟩ := (r.slot i s ei).th (getO_th hs).1
  rw [ev] at h1
  cases h1
  refine ⟨G.g, v, us, ds, o, G.fp i, rfl, hp, r.sub, ro, rv, ?_⟩
  have gr : ∀ {H' G' : Hp} {o' : O} {F' : List Addr}, Chg κ H G (G.fp i) H' G' → RO κ H' G' v o' F' → (∀ a, a ∈ F' → a ∈ G.fp i ∨ H a = none) → Rep κ H' ⟨G', (G.put i F').fp⟩ σ (env.set i (setO s o')) ∧ Fr H G σ env H' ⟨G', (G.put i F').fp⟩ σ (env.set i (setO s o')) := fun {H' G' o' F'} c ro' hF =>
    r.chgG ei (getO_th hs).2 (getO_th hs).1 setO_th.1 (setO_was hs) setO_th.2 ev c.gk c.sub c.gn ro' c.hk hF
  cases z : gI o ds with
  | none => rw [z] at q; exact q
  | some w => cases w with
    | rt y o' =>
      rw [z] at q
      intro u H' G' F' c ro' hF rf
      obtain ⟨r1, f1⟩ := gr c ro' hF
      refine q u H' _ r1 ?_ f1
      have fre : ∀ a, (a ∈ G.fp i ∨ H a = none) → a ∉ F' → Fre ⟨G', (G.put i F').fp⟩ (env.set i (setO s o')) a ∧ Nw H G env a := fun a ha nF => by
        refine ⟨fun j t e m => ?_, fun o2 h => ?_⟩
        · have m : a ∈ (G.put i F').fp j := m
          rcases set_look e with ⟨rfl, rfl⟩ | ⟨w, e2⟩
          · rw [put_at] at m; exact nF m
          · rw [put_ne w] at m
            rcases ha with ha | ha
            · exact w (r.inj i j a t ⟨s, o, ei, (getO_th hs).1, ha⟩ e2 m)
            · obtain ⟨z, hz⟩ := r.live e2 m
              rw [ha] at hz
              cases hz
        · rcases ha with ha | ha
          · exact ⟨i, s, ei, (getO_th hs).2, ha⟩
          · rw [ha] at h; cases h
      cases y with
      | sh d => exact rf
      | ow l =>
        obtain ⟨a, xs, h1, h2, h3, h4, h5, h6⟩ := rf
        exact ⟨a, xs, h1, h4, h5, h6, (fre a h2 h3).1, (fre a h2 h3).2⟩
      | tr o2 =>
        obtain ⟨F2, h1, h2⟩ := rf
        exact ⟨F2, h1, fun a m => fre a (h2 a m).1 (h2 a m).2⟩
    | ex y o' =>
      rw [z] at q
      intro c d H' G' F' ch ro' hF xr
      obtain ⟨r1, f1⟩ := gr ch ro' hF
      exact q c d H' _ r1 xr f1
end
def fM2 (f : List Nat → D → D → Option Rs) (mo me me2 : Sm D) : Sm Rs := bnd mo fun x => match x with
  | .str w => bnd me fun y => bnd me2 fun y2 e => match f w y y2 with
    | some z => some (.ok z e)
    | none => none
  | _ => fun _ => none
def opFind3 : List Nat → D → D → Option Rs
  | a, .str b, .int i => some (.sh (.int (Txt.find3 (S a) (S b) i)))
  | _, _, _ => none
def opStarts3 : List Nat → D → D → Option Rs
  | a, .str b, .int i => some (.sh (.bl (Txt.startswith3 (S a) (S b) i)))
  | _, _, _ => none
section
variable {X : Cx} {κ : Kx} {W : WX} {o e e2 : Expr} {mo me me2 : Sm D} {pos apos : Pos}
end
theorem spV_len {κ : Kx} {ms : List Bool} {g : FSem} {vs : List V} {H : Hp} {Q : VK} {E : XK} (h : spV κ ms g vs H Q E) : vs.length = ms.length := by
  obtain ⟨G, ds, _, r, _⟩ := h
  exact r.len.1
theorem spI_len {κ : Kx} {p : Nat} {ms : List Bool} {g : FSemI} {vs : List V} {H : Hp} {Q : VK} {E : XK} (h : spI κ p ms g vs H Q E) : vs.length = ms.length + 1 := by
  obtain ⟨G, v, us, ds, o, F, rfl, _, _, _, r, _⟩ := h
  rw [insA_len, r.len.1]
/-! ### the row's end -/
def spLaw (K : PySem.W.Frag) : Sp := fun vs H Q _ => ∃ (a : Addr) (ns : List Int), vs = [.ref a] ∧ SqL K H a (ns.map V.int) ∧ ns.length ≤ 63 ∧ (∀ z ∈ ns, Builtin.Int.intBits z ≤ 1048576) ∧ ∀ H', Q (.bl true) H'
/-- the law's function tells True of every script -/
def LawTrue (g : FSem) : Prop := ∀ ns : List Int, ns.length ≤ 63 → (∀ z ∈ ns, Builtin.Int.intBits z ≤ 1048576) → g [.scr ns] = some (.rt (.sh (.bl true)))
open Classical in
/-- a heap without its tables -/
noncomputable def noTb (H : Hp) : Hp := fun a => if (∃ ps, H a = some (.tbl ps)) then none else H a
theorem noTb_at {H : Hp} {a : Addr} {o : HO} (h : H a = some o) (n : nt o) : noTb H a = some o := by
  unfold noTb
  rw [if_neg]
  · exact h
  · rintro ⟨ps, e⟩
    rw [h] at e
    exact n ps (Option.some.inj e)
theorem noTb_of {H : Hp} {a : Addr} {o : HO} (h : noTb H a = some o) : H a = some o ∧ nt o := by
  unfold noTb at h
  split at h
  · cases h
  · rename_i z
    exact ⟨h, fun ps e => z ⟨ps, by rw [h, e]⟩⟩
theorem law_spT {κ : Kx} {g : FSem} {m : Bool} (hg : LawTrue g) (vs : List V) (H : Hp) (Q : VK) (E : XK) (ht : LamX.Tabs κ.tb H) (h : spLaw κ.K vs H Q E) : spV κ [m] g vs H Q E := by
  obtain ⟨a, ns, rfl, hs, hl, hb, k⟩ := h
  have hs' : SqL κ.K (noTb H) a (ns.map V.int) := hs.imp (fun r => by
    rcases r with r | ⟨o, r⟩
    · exact .inl (noTb_at r fun _ z => nomatch z)
    · exact .inr ⟨o, noTb_at r fun _ z => nomatch z⟩) id
  have rp : Rp κ (noTb H) (.ref a) (.scr ns) := .scr hs'
  refine ⟨noTb H, [.scr ns], ⟨fun b o e => (noTb_of e).1, fun b o e => (noTb_of e).2, ht⟩, ?_, ?_⟩
  · cases m with
    | true => exact .bo (.inl rp) .nil
    | false => exact .sh rp .nil
  · rw [hg ns hl hb]
    intro v H' G' _ _ _ _ r
    cases r
    exact k H'
theorem law_sp {κ : Kx} {g : FSem} {m : Bool} (hg : LawTrue g) (vs : List V) (H : Hp) (Q : VK) (E : XK) (h : spLaw κ.K vs H Q E) (ht : κ.tb = [] := by rfl) : spV κ [m] g vs H Q E :=
  law_spT hg vs H Q E (by rw [ht]; exact fun p hp => by cases hp) h
theorem cx_out {P : Program} {w : World} {H : Hp} {s : Shared} {e : Value} {s' : Shared} (h : L2.CX P w [] H s (fun _ _ _ => False) e s') : False := by
  obtain ⟨_, _, _, _, _, _, _, _, _, _, _, _, z⟩ := h
  exact z.elim
theorem walk_law {l : PySem.W.OpenLaw} {x : Str} {k : Nat} {q : Program} {loose : List Str} {XP : (Str → Option Value) → Heap → Prop} {YP : World → Heap → Prop} {d : DefRec} {K : Params → PySem.W.Frag} (hn : l.most = some 63) (hdf : d.params.defaults = []) (hr : Room k PySem.callerA)
    (hY : ∀ (w : World) (h : Heap), YP w h → (K w.params).In h)
    (F : ∀ (w : World) (mg : Str → Option Value) (fa : Addr) (h : Heap), (K w.params).In h → h.Ns mainGlobals mg → mg d.name = some (.ref fa) →
      ∃ fd : FuncData, (∀ (s : Shared) (u : Value), BindsTo s fd ⟨[u], []⟩ [(x, u)]) ∧ ∀ base : Heap, (K w.params).In base → base.Ns mainGlobals mg → FnOk l.prog w (K w.params) mg base (L2.CX l.prog w) k fa fd [x] (spLaw (K w.params))) :
    PySem.W.WalkO q loose XP YP l.row.toRowW d [] (fun f vs => PySem.call f vs) :=
  L2.walk_ofB (n := 63) (k := k) (x := x) (CX := fun w => L2.CX l.prog w) (sp := fun w => spLaw (K w.params)) hn (by decide) hdf hr hY F (fun _ _ a ns hl hb _ hS => ⟨a, ns, rfl, hS, hl, hb, fun _ => rfl⟩) fun _ _ _ _ _ z => cx_out z
end Vs


set_option Elab.async false
set_option linter.all false
set_option maxRecDepth 100000
set_option maxHeartbeats 2000000
/-! Vs2: comprehensions. -/
namespace Vs
open PySem L2
abbrev WF : WX := fun _ _ _ _ => False
def unE : List Nat → En → En
  | [], e => e
  | v :: vs, e => (unE vs e).set v .un
def unG : List Nat → Gh → Gh
  | [], G => G
  | v :: vs, G => (unG vs G).put v []
theorem unG_g : ∀ (vs : List Nat) (G : Gh), (unG vs G).g = G.g
  | [], _ => rfl
  | v :: vs, G => unG_g vs G
def UnAt (vs : List Nat) (env : En) : Prop := ∀ v ∈ vs, ∀ s, env[v]? = some s → s = .un
def Off (vs : List Nat) (σ σ' : L2.St) : Prop := ∀ j, j ∉ vs → σ[j]? = σ'[j]?
theorem Off.symm {vs : List Nat} {σ σ' : L2.St} (o : Off vs σ σ') : Off vs σ' σ := fun j h => (o j h).symm
theorem off_wipe {vs : List Nat} {σ : L2.St} : Off vs σ (wipe σ vs) := fun j h => (wipe_out h).symm
theorem wipe_in {σ : L2.St} {j : Nat} : ∀ {vs : List Nat}, j ∈ vs → (wipe σ vs)[j]? = if j < σ.length then some none else none
  | v :: vs, h => by
    unfold wipe
    by_cases e : v = j
    · subst e
      by_cases hl : v < σ.length
      · rw [if_pos hl, List.getElem?_set_self (by rw [wipe_length]; exact hl)]
      · rw [if_neg hl, List.getElem?_eq_none (by rw [List.length_set, wipe_length]; omega)]
    · rw [List.getElem?_set_ne e]
      exact wipe_in ((List.mem_cons.mp h).resolve_left fun w => e w.symm)
theorem wipe_eq {vs : List Nat} {σ σ' : L2.St} (o : Off vs σ σ') (l : σ'.length = σ.length) : wipe σ' vs = wipe σ vs := by
  refine List.ext_getElem? fun j => ?_
  by_cases h : j ∈ vs
  · rw [wipe_in h, wipe_in h, l]
  · rw [wipe_out h, wipe_out h, o j h]
section
variable {κ : Kx} {H H' : Hp} {G G' : Gh} {σ σ' τ τ' : L2.St} {env env' : En} {vs : List Nat} {a L : Addr}
theorem unE_at : ∀ vs : List Nat, UnAt vs (unE vs env)
  | [], v, h, _, _ => nomatch h
  | v :: vs, w, h, s, e => by
    unfold unE at e
    rcases set_look e with ⟨_, q⟩ | ⟨q, e2⟩
    · exact q
    · exact unE_at vs w ((List.mem_cons.mp h).resolve_left fun z => q z.symm) s e2
theorem Rep.drop1 (r : Rep κ H G σ env) (i : Nat) : Rep κ H (G.put i []) σ (env.set i .un) := by
  have back : ∀ {j : Nat} {b : Addr}, Own (G.put i []) (env.set i .un) j b → Own G env j b ∧ i ≠ j := fun {j b} ⟨u, o', e', t', m⟩ => by
    rcases set_look e' with ⟨rfl, rfl⟩ | ⟨w, e2⟩
    · cases t'
    · rw [put_ne w] at m
      exact ⟨⟨u, o', e2, t', m⟩, w⟩
  refine ⟨r.sub, by rw [List.length_set]; exact r.len, fun j s e => ?_, fun j k b t ow e m => ?_⟩
  · rcases set_look e with ⟨rfl, rfl⟩ | ⟨w, e2⟩
    · exact put_at
    · show RSl κ H G.g _ ((G.put i []).fp j) s
      rw [put_ne w]
      exact r.slot j s e2
  · rcases set_look e with ⟨rfl, rfl⟩ | ⟨w, e2⟩
    · rw [put_at] at m; cases m
    · rw [put_ne w] at m
      exact r.inj j k b t (back ow).1 e2 m
theorem Fr.drop1 (i : Nat) : Fr H G σ env H (G.put i []) σ (env.set i .un) := Fr.same (Grw.refl _) (Same.refl _) (fun _ _ _ h _ => h) (fun b o h ⟨j, s, e, hm, m⟩ => by
    rcases set_look e with ⟨rfl, rfl⟩ | ⟨w, e2⟩
    · cases hm
    · rw [put_ne w] at m
      exact ⟨j, s, e2, hm, m⟩) fun j s hf e => by
  rcases set_look e with ⟨rfl, rfl⟩ | ⟨w, e2⟩
  · cases hf
  · exact ⟨e2, put_ne w⟩
theorem Rep.unE (r : Rep κ H G σ env) : ∀ vs : List Nat, Rep κ H (unG vs G) σ (unE vs env)
  | [] => r
  | v :: vs => (Rep.unE r vs).drop1 v
theorem Fr.unE : ∀ vs : List Nat, Fr H G σ env H (unG vs G) σ (unE vs env)
  | [] => Fr.refl
  | v :: vs => (Fr.unE vs).trans (Fr.drop1 v)
theorem un_off {i : Nat} {s : Sl} (u : UnAt vs env) (o : Off vs σ σ') (e : env[i]? = some s) (h : s ≠ .un) : σ[i]? = σ'[i]? := o i fun m => h (u i m s e)
theorem Rep.off (u : UnAt vs env) (o : Off vs σ σ') (hl : σ'.length = σ.length) (r : Rep κ H G σ env) : Rep κ H G σ' env := by
  refine ⟨r.sub, hl.trans r.len, fun i s e => ?_, r.inj⟩
  by_cases h : s = .un
  · subst h; exact r.slot i _ e
  · rw [← un_off u o e h]
    exact r.slot i s e
theorem fix_un {s : Sl} (h : s.fix = true) : s ≠ .un := fun z => by subst z; cases h
theorem Fr.offR (u : UnAt vs env') (o : Off vs τ τ') (f : Fr H G σ env H' G' τ env') : Fr H G σ env H' G' τ' env' where
  hk := f.hk
  gk := f.gk
  gn := f.gn
  mm := f.mm
  lk := fun i s hf e => by
    obtain ⟨s0, e1, w, e2, e3⟩ := f.lk i s hf e
    exact ⟨s0, e1, w, (un_off u o e (fix_un hf)).symm.trans e2, e3⟩
/-- a list in no slot stays so -/
theorem Fre.keep {u : HO} (r : Rep κ H G σ env) (r' : Rep κ H' G' σ' env') (f : Fr H G σ env H' G' σ' env') (h : H L = some u) (g0 : G.g L = none) (p : Fre G env L) : Fre G' env' L := fun i s e m => by
  have nm : ¬ Mt G env L := fun ⟨j, t, e2, _, m2⟩ => p j t e2 m2
  by_cases hm : s.mut = true
  · exact nm (f.mm L u h ⟨i, s, e, hm, m⟩)
  · have hm' : s.mut = false := by simpa using hm
    by_cases hf : s.fix = true
    · obtain ⟨s0, e1, w, _, e3⟩ := f.lk i s hf e
      have q := was_eq hm' hf w
      subst q
      rw [e3 rfl hm'] at m
      exact p i _ e1 m
    · have q := r'.slot i s e
      cases s with
      | un => rw [show G'.fp i = [] from q] at m; cases m
      | sh d => rw [q.1] at m; cases m
      | lk l => exact hf rfl
      | bo l => exact hf rfl
      | ow l => exact hm rfl
      | io o => exact hm rfl
      | tr o => exact hm rfl
theorem Fre.mt (p : Fre G env L) : ¬ Mt G env L := fun ⟨j, t, e2, _, m2⟩ => p j t e2 m2
/-- the list that is made -/
structure DA (κ : Kx) (H : Hp) (G : Gh) (env : En) (L : Addr) (acc : List D) (xs : List V) : Prop where
  h : H L = some (.lst xs)
  g : G.g L = none
  r : RpA κ G xs acc
  f : Fre G env L
theorem DA.keep {acc : List D} {xs : List V} (r : Rep κ H G σ env) (r' : Rep κ H' G' σ' env') (d : DA κ H G env L acc xs) (s : Grw H H') (f : Fr H G σ env H' G' σ' env') : DA κ H' G' env' L acc xs :=
  ⟨s.at d.h, f.gn L _ d.h d.g d.f.mt, d.r.mono f.gk, d.f.keep r r' f d.h d.g⟩
theorem Rep.updD {acc : List D} {xs ys : List V} (r : Rep κ H G σ env) (d : DA κ H G env L acc xs) : Rep κ (upd H L (.lst ys)) G σ env := by
  have ne : ∀ {i : Nat} {s : Sl} {b : Addr}, env[i]? = some s → b ∈ G.fp i → b ≠ L := fun {i s b} e m z => d.f i s e (z ▸ m)
  refine ⟨⟨same_upd r.sub.s d.g, r.sub.n, tabs_of r.sub.t fun a o e np => by
    by_cases z : a = L
    · rw [z, d.h] at e
      cases e
      exact (np ⟨(fun _ z => nomatch z), (fun _ z => nomatch z)⟩).elim
    · rw [upd_ne z]
      exact e⟩, r.len, fun i s e => ?_, r.inj⟩
  have t := r.slot i s e
  have th : ∀ {o : O}, s.th = some o → RSl κ (upd H L (.lst ys)) G σ[i]? (G.fp i) s := fun {o} z => by
    obtain ⟨x, h1, h2⟩ := t.th z
    exact .of z h1 (h2.grow (Same.refl _) (fun b u m h => by rw [upd_ne (ne e m)]; exact h) fun b m => (h2.own m).2)
  cases s with
  | un => exact t
  | sh x => exact t
  | ow m => exact th rfl
  | lk m => exact th rfl
  | io m => exact th rfl
  | tr m => exact th rfl
  | bo m =>
    obtain ⟨b, zs, t1, t2, t4, t5⟩ := t
    exact ⟨b, zs, t1, by rw [upd_ne (ne e (by rw [t5]; exact List.mem_singleton_self b))]; exact t2, t4, t5⟩
theorem Fr.updD {u : HO} (h : H L = none) (f : Fr H G σ env H' G' σ' env') : Fr H G σ env (upd H' L u) G' σ' env' where
  hk := fun a o e n => by rw [upd_ne (ne_of_none e h)]; exact f.hk a o e n
  gk := f.gk
  gn := f.gn
  mm := f.mm
  lk := f.lk
end
/-- a target whose names are the comprehension's own -/
def TgOff (κ : Kx) (vs : List Nat) (g : TG) (f : D → En → Option En) : Prop := ∀ (v : V) (d : D) (σ : L2.St) (H : Hp) (G : Gh) (env e1 : En) (Q : L2.St → Hp → Prop), f d env = some e1 → Rep κ H G σ env → Rp κ G v d → (∀ σ1 G1, Rep κ H G1 σ1 e1 → Fr H G σ env H G1 σ1 e1 → Off vs σ σ1 → σ1.length = σ.length → Q σ1 H) → g v σ H Q
section
variable {κ : Kx} {vs : List Nat}
theorem off_set {σ : L2.St} {i : Nat} {x : Option V} (h : i ∈ vs) : Off vs σ (σ.set i x) := fun j n => by
  rw [List.getElem?_set_ne (fun z : i = j => n (z ▸ h))]
theorem to_name (i : Nat) (hi : (vs.elem i) = true) : TgOff κ vs (gName i) (tgN i) := fun v d σ H G env e1 Q e r h q => by
  have hi := List.mem_of_elem_eq_true hi
  unfold tgN at e
  by_cases hl : i < env.length
  · rw [if_pos hl] at e
    cases e
    obtain ⟨G1, _, a, b⟩ := rep_sh r hl h
    exact q _ G1 a b (off_set hi) (List.length_set ..)
  · rw [if_neg hl] at e; cases e
end
def lcL (f : D → En → Option En) (tt : Sm Bool) (te : Sm D) (vs : List Nat) : List D → List D → Sm Rs
  | [], acc, e => some (.ok (.ow acc) e)
  | d :: ds, acc, e => match f d e with
    | none => none
    | some e1 => match tt e1 with
      | some (.ok true e2) => match te e2 with
        | some (.ok y e3) => lcL f tt te vs ds (acc ++ [y]) (unE vs e3)
        | _ => none
      | some (.ok false e2) => lcL f tt te vs ds acc (unE vs e2)
      | _ => none
def fLc (mi : Sm (List D)) (f : D → En → Option En) (tt : Sm Bool) (te : Sm D) (vs : List Nat) : Sm Rs := bnd mi fun ds e => if ds.length ≤ szl then lcL f tt te vs ds [] (unE vs e) else none
def tYs : Sm Bool := ret true
section
variable {X : Cx} {κ : Kx} {W : WX}
theorem lc_tr {wi : TI} {g : TG} {ttr : TT} {ter : TE} {vs : List Nat} {mi : Sm (List D)} {f : D → En → Option En} {tt : Sm Bool} {te : Sm D} {σ : L2.St} {H : Hp} {Q : VK}
    (hwi : ∀ σ H (P : It → Hp → Prop), tX κ W (RI κ) mi σ H P → wi σ H P) (hf : TgOff κ vs g f) (htt : ∀ σ H P, tX κ WF RT tt σ H P → ttr σ H P) (hte : ∀ σ H P, tX κ WF (RP κ) te σ H P → ter σ H P) (h : tX κ W (RV κ) (fLc mi f tt te vs) σ H Q) : tLc wi g ttr ter vs σ H Q := by
  obtain ⟨G, env, r, q⟩ := h
  refine hwi _ _ _ (bind_post r q fun ds e1 J H1 G1 em r1 rv s1 f1 q1 => ?_)
  obtain ⟨pr, hpr, yl⟩ := rv
  have hsz : ds.length ≤ szl := by
    by_cases hsz : ds.length ≤ szl
    · exact hsz
    · rw [if_neg hsz] at q1; exact q1.elim
  rw [if_pos hsz] at q1
  intro D hD
  have ow : Off vs σ (wipe σ vs) := off_wipe
  have lw : (wipe σ vs).length = σ.length := wipe_length σ vs
  let Inv0 : Nat → Hp → Prop := fun i H' => i ≤ ds.length ∧ ∃ G' env' acc xs, Rep κ H' G' (wipe σ vs) env' ∧ UnAt vs env' ∧ Fr H1 G1 σ e1 H' G' (wipe σ vs) env' ∧ DA κ H' G' env' D acc xs ∧ acc.length ≤ i ∧ Grw H1 H' ∧ EPost κ W (RV κ) σ H1 G1 e1 (lcL f tt te vs (ds.drop i) acc env') Q
  refine ⟨fun i m H' => m = ds.length - i ∧ Inv0 i H', ⟨ds.length, by simp, Nat.zero_le _, ?_⟩, ?_⟩
  · obtain ⟨st, rv⟩ := new_ow (xs := []) (l := []) r1 hD .nil
    obtain ⟨a0, xs0, e0, d1, d2, d3, d4, _⟩ := rv
    cases e0
    have u := unE_at (env := e1) vs
    have fu : Fr (upd H1 D (.lst [])) G1 σ e1 (upd H1 D (.lst [])) (unG vs G1) (wipe σ vs) (unE vs e1) := (Fr.unE vs).offR u ow
    have ru := (st.rep.unE vs).off u ow lw
    exact ⟨unG vs G1, unE vs e1, [], [], ru, u, st.fr.trans fu, ⟨upd_same, by rw [unG_g]; exact d2, .nil, d4.keep st.rep ru fu upd_same d2⟩, Nat.le_refl _, st.same, q1⟩
  rintro i m H2 ⟨rfl, hi2, G2, env2, acc, xs, r2, u2, fr2, da, al, sm, q2⟩
  have y := yl H2 G2 (fun a o pa e n => fr2.at e (hpr a pa)) fr2.gk r2.sub i
  by_cases hlt : i < ds.length
  · right
    have ed : ds[i]? = some ds[i] := List.getElem?_eq_getElem hlt
    have dr : ds.drop i = ds[i] :: ds.drop (i + 1) := (List.drop_eq_getElem_cons hlt)
    obtain ⟨go, yy⟩ := y.1 _ ed
    refine ⟨go, Inv0 (i + 1), fun H' h => ⟨ds.length - (i + 1), by omega, rfl, h⟩, fun x H3 hy => ?_⟩
    rw [dr] at q2
    dsimp only [lcL] at q2
    cases z : f ds[i] env2 with
    | none => rw [z] at q2; exact q2.elim
    | some e3 =>
      rw [z] at q2
      dsimp only at q2
      have item : ∃ G3 : Gh, Rep κ H3 G3 (wipe σ vs) env2 ∧ Fr H2 G2 (wipe σ vs) env2 H3 G3 (wipe σ vs) env2 ∧ Rp κ G3 x ds[i] ∧ Grw H2 H3 := by
        rcases yy x H3 hy with ⟨rfl, rx⟩ | ⟨T, ts, es, hT, rfl, rfl, e4, rx⟩
        · exact ⟨G2, r2, Fr.refl, rx, Grw.refl _⟩
        · have st := new_sh (o := .tup ts) r2 hT
          refine ⟨G2.up T (.tup ts), st.rep, st.fr, ?_, st.same⟩
          rw [e4]
          exact .tup upd_same (rx.mono (same_new (r2.sub.none hT)))
      obtain ⟨G3, r3, fr3, rx, s3⟩ := item
      refine hf x ds[i] (wipe σ vs) H3 G3 env2 e3 _ z r3 rx fun σ4 G4 r4 fr4 off4 len4 => ?_
      have off : Off vs σ σ4 := fun j n => (ow j n).trans (off4 j n)
      have len : σ4.length = σ.length := len4.trans lw
      refine ⟨wipe_eq off len, htt _ _ _ ⟨G4, e3, r4, ?_⟩⟩
      have da3 := (da.keep r2 r3 s3 fr3).keep r3 r4 (Grw.refl _) fr4
      have frA := (fr2.trans fr3).trans fr4
      have smA := sm.trans s3
      cases w : tt e3 with
      | none => rw [w] at q2; exact q2
      | some o => cases o with
        | ex x5 e5 => rw [w] at q2; exact q2.elim
        | ok b e5 =>
          rw [w] at q2
          intro b' H5 G5 r5 rb s5 fr5
          cases rb
          have da5 := da3.keep r4 r5 s5 fr5
          have frB := frA.trans fr5
          have back : ∀ {e : En}, Off vs σ4 (wipe σ vs) := fun {e} j n => (off j n).symm.trans (ow j n)
          cases b with
          | false =>
            rw [if_neg (by decide)]
            have u := unE_at (env := e5) vs
            have fu : Fr H5 G5 σ4 e5 H5 (unG vs G5) (wipe σ vs) (unE vs e5) := (Fr.unE vs).offR u (back (e := e5))
            have ru := (r5.unE vs).off u (back (e := e5)) (lw.trans len.symm)
            exact ⟨hlt, unG vs G5, unE vs e5, acc, xs, ru, u, frB.trans fu, da5.keep r5 ru (Grw.refl _) fu, by omega, smA.trans s5, q2⟩
          | true =>
            rw [if_pos rfl]
            dsimp only at q2
            refine hte _ _ _ ⟨G5, e5, r5, ?_⟩
            cases w6 : te e5 with
            | none => rw [w6] at q2; exact q2
            | some o6 => cases o6 with
              | ex x6 e6 => rw [w6] at q2; exact q2.elim
              | ok yd e6 =>
                rw [w6] at q2
                intro v H6 G6 r6 rv6 s6 fr6
                have da6 := da5.keep r5 r6 s6 fr6
                have u := unE_at (env := e6) vs
                have fu : Fr H6 G6 σ4 e6 H6 (unG vs G6) (wipe σ vs) (unE vs e6) := (Fr.unE vs).offR u (back (e := e6))
                have ru := (r6.unE vs).off u (back (e := e6)) (lw.trans len.symm)
                have da7 := da6.keep r6 ru (Grw.refl _) fu
                have hxs : xs.length = acc.length := da.r.length
                refine ⟨xs, da6.h, szl_lt (by omega), hlt, unG vs G6, unE vs e6, acc ++ [yd], xs ++ [v], ru.updD da7, u, ((frB.trans fr6).trans fu).updD hD, ⟨upd_same, da7.g, by rw [unG_g]; exact da6.r.append (.cons rv6 .nil), da7.f⟩, ?_, ?_, q2⟩
                · rw [List.length_append, List.length_singleton]; omega
                · intro a o e
                  rw [upd_ne (ne_of_none e hD)]
                  exact ((smA.trans s5).trans s6) a o e
  · left
    have e : i = ds.length := by omega
    subst e
    refine ⟨y.2 (Nat.le_refl _), ?_⟩
    rw [List.drop_length] at q2
    have ob : Off vs (wipe σ vs) σ := ow.symm
    exact q2 (.ref D) H2 G2 (r2.off u2 ob lw.symm) ⟨D, xs, rfl, da.h, da.g, da.r, da.f, fun o h => by rw [hD] at h; cases h⟩ sm (fr2.offR u2 ob)
variable {elt tg iter : Expr} {ifs : List Expr} {scope : Scope} {own : List (Str × Nat)} {pos spos py : Pos} {g : TG} {mi : Sm (List D)} {f : D → En → Option En} {tt : Sm Bool} {te : Sm D} {vs : List Nat}
theorem pts_yes : PTs X [] (tX κ WF RT tYs) := ⟨fun pins s σ H Q I ⟨G, env, r, q⟩ => pts_nil.run pins s σ H Q I (q true H G r rfl (Grw.refl _) Fr.refl)⟩
theorem v_lc (hc : X.calm = true) (hN : X.N.Nodup) (hv : vs = own.map (·.2)) (hi : PI X tg iter (tX κ W (RI κ) mi)) (ok : BlkOk X.N X.env.scope scope own)
    (hg : ∀ (s : Shared) (H : Hp) (C : Addr) (cl : List (Str × Addr)) (fp : List Addr), PG (X.blk s H scope (compEnvC scope cl C X.env) fp) tg g) (hf : TgOff κ vs g f) (ht : ∀ (s : Shared) (H : Hp) (C : Addr) (cl : List (Str × Addr)) (fp : List Addr), PTs (X.blk s H scope (compEnvC scope cl C X.env) fp) ifs (tX κ WF RT tt))
    (he : ∀ (s : Shared) (H : Hp) (C : Addr) (cl : List (Str × Addr)) (fp : List Addr), PE (X.blk s H scope (compEnvC scope cl C X.env) fp) elt (tX κ WF (RP κ) te)) (hs : ∀ x, foldedSetIterable iter X.env x = pure x := by intro _; rfl) :
    PE X (.ListComp elt [⟨tg, iter, ifs, 0⟩] scope pos) (tX κ W (RV κ) (fLc mi f tt te vs)) := by
  subst hv
  exact PE.imp (pe_lc hc hN hi ok hg ht he hs) fun σ H Q h => lc_tr (fun _ _ _ h => h) hf (fun _ _ _ h => h) (fun _ _ _ h => h) h
/-- an own list that is walked in an expression -/
def xLock (i : Nat) (m : Sm Rs) : Sm Rs := fun e => match e[i]? with
  | some (.ow l) => match m (e.set i (.lk l)) with
    | some (.ok r e1) => some (.ok r (unlk i e1))
    | some (.ex x e1) => some (.ex x (unlk i e1))
    | none => none
  | _ => m e
theorem lock_tr {i : Nat} {m : Sm Rs} {σ : L2.St} {H : Hp} {Q : VK} (h : tX κ W (RV κ) (xLock i m) σ H Q) : tX κ W (RV κ) m σ H Q := by
  obtain ⟨G, env, r, q⟩ := h
  unfold xLock at q
  split at q
  · rename_i l e
    refine ⟨G, _, r.locked e, ?_⟩
    cases w : m (env.set i (.lk l)) with
    | none => rw [w] at q; exact q
    | some o => cases o with
      | ex x e1 =>
        rw [w] at q
        exact fun c d H' G' r' xr s f => q c d H' G' r'.unlocked xr s (f.unlocked e)
      | ok z e1 =>
        rw [w] at q
        intro v H' G' r' rv s f
        exact q v H' G' r'.unlocked (rv_unlk (fun c n => lock_nw n) rv) s (f.unlocked e)
  · exact ⟨G, env, r, q⟩
theorem v_lock {i : Nat} {m : Sm Rs} {e : Expr} (h : PE X e (tX κ W (RV κ) m)) : PE X e (tX κ W (RV κ) (xLock i m)) := PE.imp h fun σ H Q q => lock_tr q
theorem s_lcm {i : Nat} {y : Str} {m : Sm Rs} (hm : ∀ σ H Q, tX κ W (RV κ) m σ H Q → tX κ W (RV κ) (fLc mi f tt te vs) σ H Q) (hc : X.calm = true) (hN : X.N.Nodup) (hv : vs = own.map (·.2)) (hy : X.N[i]? = some y) (hyl : X.env.scope.names.lookup y = some .local) (hsw : swapsWith (.ListComp elt [⟨tg, iter, ifs, 0⟩] scope pos) (some (.Name y py)) spos.line X.env = pure true) (hi : PI X tg iter (tX κ W (RI κ) mi)) (ok : BlkOk X.N X.env.scope scope own)
    (hg : ∀ (s : Shared) (H : Hp) (C : Addr) (cl : List (Str × Addr)) (fp : List Addr), PG (X.blk s H scope (compEnvC scope cl C X.env) fp) tg g) (hf : TgOff κ vs g f) (ht : ∀ (s : Shared) (H : Hp) (C : Addr) (cl : List (Str × Addr)) (fp : List Addr), PTs (X.blk s H scope (compEnvC scope cl C X.env) fp) ifs (tX κ WF RT tt))
    (he : ∀ (s : Shared) (H : Hp) (C : Addr) (cl : List (Str × Addr)) (fp : List Addr), PE (X.blk s H scope (compEnvC scope cl C X.env) fp) elt (tX κ WF (RP κ) te)) (hs : ∀ x, foldedSetIterable iter X.env x = pure x := by intro _; rfl) :
    PS X (.Assign [.Name y py] (.ListComp elt [⟨tg, iter, ifs, 0⟩] scope pos) spos) (tS κ W (sAsg i m)) := by
  subst hv
  refine PS.imp (ps_setLc hc hN hy hyl hsw hi ok hg ht he hs) fun D σ H ⟨G, env, r, q⟩ => ?_
  refine lc_tr (W := W) (fun _ _ _ h => h) hf (fun _ _ _ h => h) (fun _ _ _ h => h) (hm _ _ _ ⟨G, env, r, ?_⟩)
  unfold sAsg sbnd at q
  cases w : m env with
  | none => rw [w] at q; exact q
  | some o => cases o with
    | ex x e1 =>
      rw [w] at q
      exact fun c d H' G' a b _ g => q c d σ H' G' a b g
    | ok z e1 =>
      rw [w] at q
      intro v H1 G1 r1 rv s1 f1
      by_cases hl : i < e1.length
      · dsimp only at q
        rw [if_pos hl] at q
        obtain ⟨G2, r2, f2⟩ := put_all r1 hl rv f1
        exact q _ H1 G2 r2 f2
      · dsimp only at q
        rw [if_neg hl] at q; exact q.elim
theorem s_lc {i : Nat} {y : Str} : type_of% (@s_lcm X κ W elt tg iter ifs scope own pos spos py g mi f tt te vs i y (fLc mi f tt te vs) fun _ _ _ h => h) := @s_lcm X κ W elt tg iter ifs scope own pos spos py g mi f tt te vs i y (fLc mi f tt te vs) fun _ _ _ h => h
end
end Vs


set_option Elab.async false
set_option linter.all false
set_option maxRecDepth 100000
set_option maxHeartbeats 2000000
/-! Vx: own errors with one field (turned from the worked proof 42). -/
namespace PySem
namespace LowX_NoWord
open PySem.W PySem.Calls PyProof.Rows PySem.HandSPX
/-! ### the text of __init__ -/
def iA (p1 p2 : Pos) : Arguments := { posonlyargs := [], args := [{ arg := "self", annotation := none, pos := p1 }, { arg := "place", annotation := none, pos := p2 }], vararg := none, kwonlyargs := [], kw_defaults := [], kwarg := none, defaults := [] }
def iB (q1 q2 q3 q4 : Pos) : List Stmt := [.Assign [.Attribute (.Name "self" q1) "place" q2] (.Name "place" q3) q4]
def iS : Scope := { kind := .function, names := [(PySem.Str.ofString "self", .local), (PySem.Str.ofString "place", .local)], isGenerator := false, isCoroutine := false, more := [] }
/-- what the written part says of Low, at C, and of its __init__, at fI -/
structure LowTxt (K : Frag) (mg : Str → Option Value) (C fI : Addr) : Prop where
  gC : mg "NoWord" = some (.ref C)
  cls : ∃ nm q N bs bm sn sub ab col dd k0 k1 k2 k3 k5, K.lookup C = some (excClassObj nm q C N bs bm true sn sub ab col dd k0 k1 k2 k3 k5 "ValueError.__new__") ∧ refsVE bm = true
  sa : findIn K (.ref C) "__setattr__" = some (some (.builtin "object.__setattr__"))
  ga : findIn K (.ref C) "__getattribute__" = some (some (.builtin "BaseException.__getattribute__"))
  gg : findIn K (.ref C) "__getattr__" = some none
  noN : findIn K (.ref C) "place" = some none
  iC : findIn K (.ref C) "__init__" = some (some (.ref fI))
  tC : typeIn K (.ref fI) = some (.type "function")
  kC : keepIn K (.ref C) = true
  exC : subIn K (.ref C) (.type "BaseException") = some true
  tyC : typeIn K (.ref C) = some (.type "type")
  hdC : hasDictIn K C = true
  te : exmOne K (.ref C) (.ref C) = some true
  fn : ∃ (oc : Value) (od : Option Addr) (doc pm : Value) (an : Option Addr) (cdv ct : Value) (osl : Array (Option Value)) (p1 p2 q1 q2 q3 q4 : Pos),
    K.lookup fI = some ⟨oc, od, .func (fnOf "__init__" "NoWord.__init__" (iA p1 p2) (iB q1 q2 q3 q4) iS .none .none doc pm an cdv ct), osl⟩ ∧ codeIn K cdv "NoWord.__init__" = true
theorem one_size (v : Value) : [v].length ≤ sizeLine := by
  rw [sizeLine_eq]
  exact (by decide : 1 ≤ 16777216)
theorem ldC {M : Model} {s : Shared} {name : Str} {scope : Scope} {L a : Addr} {cd : Value} {m : Str → Option Value} {x : Str} {pos : Pos} {v : Value} {Q : Value → Shared → Prop} {A : Around} {E : Value → Shared → Prop} (hn : s.heap.Ns L m) (hv : m x = some v) (h : Q v s)
    (hk : scope.kind = .function := by rfl) (hl : (envOfC name scope L a cd).kindOf x = some .local := by rfl) (hd : (x == ("__debug__" : Str)) = false := by decide) :
    wpAny M A (eval (.Name x pos) (envOfC name scope L a cd)) Q E s := wpAny_Name (wpAny_loadName_local hk hl hn hv h) hd
/-- what __init__ leaves of a fresh exception at x -/
structure InitEnd (h h' : Heap) (x C dx t1 : Addr) (v : Value) : Prop where
  keep : ∀ b o, b ≠ x → h.get? b = some o → h'.get? b = some o
  obj : h'.get? x = some { cls := .ref C, dict := some dx, data := .fields #[.ref t1, .none, .none, .none, .bool false, .none] }
  dbig : h.objs.size ≤ dx
  dne : dx ≠ x
  ns : h'.Ns1 dx (fun y => if y = "place" then some v else none)
/-- a made Low -/
structure OwnMade (h h' : Heap) (e C d : Addr) (v : Value) : Prop where
  keep : ∀ b o, h.get? b = some o → h'.get? b = some o
  new : h.objs.size ≤ e
  obj : ∃ oe vs, h'.get? e = some oe ∧ oe.cls = .ref C ∧ oe.dict = some d ∧ oe.data = .fields vs ∧ vs[1]? = some .none
  dbig : h.objs.size ≤ d
  dne : d ≠ e
  ns : h'.Ns1 d (fun y => if y = "place" then some v else none)
section
variable {prog : Program} {w : World} {A : Around} {E : Value → Shared → Prop} {R : Result → Shared → Prop} {s : Shared} {K : Frag} {mg : Str → Option Value} {C fI : Addr}
theorem low_init (T : LowTxt K mg C fI) {x t0 : Addr} {v : Value} (X : K.In s.heap) (hlim : s.heap.NoLimit) (hx : s.heap.get? x = some (excO C t0)) (hnx : K.lookup x = none) (hroom : A.depth < recursionLimit)
    (hq : ∀ h' tk dx, InitEnd s.heap h' x C dx t0 v → R (.ok (.ret .none)) { s with heap := h', toks := tk }) :
    codeAny (model prog w) A (.call (.ref fI) ⟨[.ref x, v], []⟩) R s := by
  obtain ⟨oc, od, doc, pm, an, cdv, ct, osl, p1, p2, q1, q2, q3, q4, ho, hcd⟩ := T.fn
  obtain ⟨nm, q, N, bs, bm, sn, sub, ab, col, dd, k0, k1, k2, k3, k5, hC, hbm⟩ := T.cls
  have hcl : clsIn K C = some { name := nm, bases := bs, mro := .ref C :: bm, ns := N, qualname := q, hasDict := true, slotNames := sn, subclasses := sub, abstract := ab, collection := col, hasDel := false } := by unfold clsIn; rw [hC] <;> rfl
  refine Att.call_fn (binds := [("self", .ref x), ("place", v)]) X hlim ho hcd hroom (BindsTo.of_eq (by first | rfl | with_unfolding_all rfl)) (by first | rfl | decide | with_unfolding_all rfl) (fun s₁ IC => ?_) rfl rfl rfl
  obtain ⟨h₁, tk₁, rfl⟩ := IC.toInCall.same
  have k : ∀ b o, s.heap.get? b = some o → h₁.get? b = some o := IC.toInCall.keep
  have hn := IC.toInCall.ns
  have hxL : s.heap.objs.size ≠ x := Nat.ne_of_gt (Heap.lt_size hx)
  have X₁ : K.In h₁ := X.keeps k
  have hx₁ := k _ _ hx
  -- self.by = by
  show wpAny _ _ (execs _ _) _ _ _
  refine wpAny_execs_cons (plainObj_wpAny_Assign_Attribute ?_)
  refine ldC (v := v) hn (by first | rfl | with_unfolding_all rfl | kernel_rfl) (ldC (v := .ref x) hn (by first | rfl | with_unfolding_all rfl | kernel_rfl) ?_)
  refine set_plain X₁ (ox := excO C t0) (od := none) ⟨hx₁, rfl, rfl, trivial⟩ T.sa ?_
  refine exc_osa X₁ hx₁ hcl (show refsVE (.ref C :: bm) = true from hbm) rfl T.noN (fun h₃ tk₃ dx k₃ dn dne hx₃ hn₃ => ?_)
  show wpAny _ _ (execs _ _) _ _ _
  have z : s.heap.objs.size < h₁.objs.size := hn.lt
  exact wpAny_execs_nil (hq h₃ tk₃ dx ⟨fun b o hb e => k₃ b o hb (k b o e), hx₃, Nat.le_of_lt (Nat.lt_of_lt_of_le z dn), dne, hn₃⟩)
theorem low_made (T : LowTxt K mg C fI) {v : Value} (X : K.In s.heap) (hlim : s.heap.NoLimit) (hroom : A.depth + 1 < recursionLimit)
    (hq : ∀ h' tk e d, OwnMade s.heap h' e C d v → R (.ok (.ret (.ref e))) { s with heap := h', toks := tk }) :
    codeAny (model prog w) A (.call (.ref C) ⟨[v], []⟩) R s := by
  obtain ⟨nm, q, N, bs, bm, sn, sub, ab, col, dd, k0, k1, k2, k3, k5, hC, hbm⟩ := T.cls
  obtain ⟨hp, g, dr, tk, os⟩ := s
  have k : ∀ b o, hp.get? b = some o → ((hp.push (kdv_tup [v])).push (excO C hp.objs.size)).get? b = some o := fun b o e => Heap.get?_push_of_some _ (Heap.get?_push_of_some _ e)
  have hget : ((hp.push (kdv_tup [v])).push (excO C hp.objs.size)).get? (hp.objs.size + 1) = some (excO C hp.objs.size) := by heap_get
  have hnx : K.lookup (hp.objs.size + 1) = none := by
    cases e : K.lookup (hp.objs.size + 1) with
    | none => rfl
    | some o =>
      have z : hp.get? (hp.objs.size + 1) = some o := X _ _ e
      exact absurd (Nat.lt_of_succ_lt (Heap.lt_size z)) (Nat.lt_irrefl _)
  refine call_own F.excBase_ValueError (fun X => refsVE_contains X bm hbm) (X _ _ hC) (looks_findIn X T.iC) (fun self => bind_fn X self T.tC) (one_size v) ?_
  refine low_init (s := ⟨(hp.push (kdv_tup [v])).push (excO C hp.objs.size), g, dr, tk, os⟩) T (X.keeps k) (hlim.keeps k) hget hnx ?_ fun h' tk' dx ⟨k', hx, dn, dne, hns⟩ => ?_
  · show A.depth + 1 < recursionLimit
    exact hroom
  · have old : ∀ b o, hp.get? b = some o → h'.get? b = some o := fun b o e => k' b o (Nat.ne_of_lt (Nat.lt_succ_of_lt (Heap.lt_size e))) (k b o e)
    have z : hp.objs.size + 1 + 1 ≤ dx := by
      first
        | (simpa only [Heap.size_push] using dn)
        | exact dn
        | (have q := dn; rw [Heap.size_push, Heap.size_push] at q; exact q)
    exact ⟨rfl, hq h' tk' (hp.objs.size + 1) dx ⟨old, Nat.le_succ _, ⟨_, _, hx, rfl, rfl, rfl, rfl⟩, Nat.le_trans (Nat.le_trans (Nat.le_succ _) (Nat.le_succ _)) z, dne, hns⟩⟩
end
end LowX_NoWord
end PySem
namespace L2
open PySem PySem.Spec PyProof.Rows
theorem relO_low_NoWord {v : V} {v' : Value} (r : RelV v v') (f : Str) : RelO (List.lookup f [(("place" : Str), v)]) (if f = "place" then some v' else none) := by
  by_cases hw : f = "place"
  · subst hw
    rw [if_pos rfl]
    have q : List.lookup ("place" : Str) [(("place" : Str), v)] = some v := by simp [List.lookup]
    rw [q]
    exact r
  · rw [if_neg hw]
    have qw : (f == ("place" : Str)) = false := by simpa using hw
    have q2 : List.lookup f [(("place" : Str), v)] = none := by simp [List.lookup, qw]
    rw [q2]
    trivial
section
variable {X : Cx} {C fI : Addr}
/-- Low(e) -/
def tMkLow_NoWord (C : Addr) (ta : TA) : St → Hp → XK → Prop := fun σ H Q => ta σ H fun vs H1 => ∃ v, vs = [v] ∧ ∀ d, H1 d = none → Q (.ref C) (some d) (upd H1 d (.xd [(("place" : Str), v)]))
theorem pmk_low_NoWord {a : Expr} {ta : TA} {p pos : Pos} {k : Nat} (T : PySem.LowX_NoWord.LowTxt X.K X.mg C fI) (hr : Room k X.A) (ha : PA X [a] ta) (hg : Gl X "NoWord" := by rfl)
    (he : starEach (a :: []) X.env = (false, eval a X.env) :: starEach [] X.env := by rfl) (hpl : (backTo pos (starEach [] X.env)).any (·.1) = false := by rfl) :
    PMk X (.Call (.Name "NoWord" p) [a] [] pos) (tMkLow_NoWord C ta) := by
  intro pins s σ H Q I h
  refine wpAny_Call_Name_kw (ld_glob I hg T.gC ?_)
  refine PySem.W.callWith_K (h₀ := X.base) I.ok.mod.kin T.kC (thn (ha.run pos pins s σ H _ I h) fun us s1 hh => ?_) he hpl
  obtain ⟨vs, H1, I1, r1, v, ev, q1⟩ := hh
  subst ev
  refine ⟨I1.kIn, ?_⟩
  cases r1 with
  | cons rv rn =>
    rename_i v' us'
    cases rn
    show wpAny _ _ (call (.ref C) [v']) _ _ _
    have hlim := I1.nolimit
    obtain ⟨hp, g, dr, tk, os⟩ := s1
    refine wpAny_call (PySem.LowX_NoWord.low_made T I1.kIn hlim (by have := hr.dp; omega) fun h' tk' e d M => ?_)
    show MkP X pins σ Q (.ref e) ⟨h', g, dr, tk', os⟩
    obtain ⟨oe, fv, hoe, hc, hd, hdat, h1⟩ := M.obj
    have hns := M.ns
    obtain ⟨G', g1, g2⟩ := restrict h' fun b => decide (b ≠ e)
    have gk : ∀ b, b ≠ e → G'.get? b = h'.get? b := fun b hb => g1 b (decide_eq_true hb)
    have ge : G'.get? e = none := g2 e (by simp)
    have old : ∀ b o, hp.get? b = some o → G'.get? b = some o := fun b o q => (gk b (Nat.ne_of_lt (Nat.lt_of_lt_of_le (Heap.lt_size q) M.new))).trans (M.keep b o q)
    have ob : ObjOk X.prog X.w (upd H1 d (.xd [(("place" : Str), v)])) G' d (.xd [(("place" : Str), v)]) :=
      ⟨_, hns.at (fun o q => (gk d M.dne).trans q), fun f => relO_low_NoWord rv f⟩
    have J : Inv X pins σ (upd H1 d (.xd [(("place" : Str), v)])) ⟨G', g, dr, tk', os⟩ := I1.laid (t' := tk') old M.dbig ob
    refine ⟨e, oe, fv, ⟨G', g, dr, tk', os⟩, _, .ref C, some d, rfl, J, fun b o q => ?_, ge, hoe, ⟨hc, hd⟩, hdat, h1, ?_, rfl, I1.bare, raises_own T.exC T.tyC, q1 d (I1.hok.fresh M.dbig)⟩
    · by_cases hb : b = e
      · have q' : G'.get? b = some o := q
        rw [hb, ge] at q'; cases q'
      · exact (gk b hb).symm.trans q
    · rw [upd_ne (Ne.symm M.dne)]
      exact I1.hok.fresh M.new
/-- raise Low(e) -/
def tRaiseLow_NoWord (C : Addr) (W : WX) (ta : TA) : TS := fun _ σ H => tMkLow_NoWord C ta σ H fun cls d H' => W cls d σ H'
theorem ps_raiseLow_NoWord {a : Expr} {ta : TA} {W : WX} {p pos pos2 : Pos} {k : Nat} (hc : X.calm = true) (T : PySem.LowX_NoWord.LowTxt X.K X.mg C fI) (hr : Room k X.A) (tk : Takes X W) (ha : PA X [a] ta) (hg : Gl X "NoWord" := by rfl)
    (he : starEach (a :: []) X.env = (false, eval a X.env) :: starEach [] X.env := by rfl) (hpl : (backTo pos (starEach [] X.env)).any (·.1) = false := by rfl) :
    PS X (.Raise (some (.Call (.Name "NoWord" p) [a] [] pos)) none pos2) (tRaiseLow_NoWord C W ta) := ps_raise hc tk (pmk_low_NoWord T hr ha hg he hpl)
end
end L2

namespace PySem
namespace LowX_NoUse
open PySem.W PySem.Calls PyProof.Rows PySem.HandSPX
/-! ### the text of __init__ -/
def iA (p1 p2 : Pos) : Arguments := { posonlyargs := [], args := [{ arg := "self", annotation := none, pos := p1 }, { arg := "at", annotation := none, pos := p2 }], vararg := none, kwonlyargs := [], kw_defaults := [], kwarg := none, defaults := [] }
def iB (q1 q2 q3 q4 : Pos) : List Stmt := [.Assign [.Attribute (.Name "self" q1) "at" q2] (.Name "at" q3) q4]
def iS : Scope := { kind := .function, names := [(PySem.Str.ofString "self", .local), (PySem.Str.ofString "at", .local)], isGenerator := false, isCoroutine := false, more := [] }
/-- what the written part says of Low, at C, and of its __init__, at fI -/
structure LowTxt (K : Frag) (mg : Str → Option Value) (C fI : Addr) : Prop where
  gC : mg "NoUse" = some (.ref C)
  cls : ∃ nm q N bs bm sn sub ab col dd k0 k1 k2 k3 k5, K.lookup C = some (excClassObj nm q C N bs bm true sn sub ab col dd k0 k1 k2 k3 k5 "ValueError.__new__") ∧ refsVE bm = true
  sa : findIn K (.ref C) "__setattr__" = some (some (.builtin "object.__setattr__"))
  ga : findIn K (.ref C) "__getattribute__" = some (some (.builtin "BaseException.__getattribute__"))
  gg : findIn K (.ref C) "__getattr__" = some none
  noN : findIn K (.ref C) "at" = some none
  iC : findIn K (.ref C) "__init__" = some (some (.ref fI))
  tC : typeIn K (.ref fI) = some (.type "function")
  kC : keepIn K (.ref C) = true
  exC : subIn K (.ref C) (.type "BaseException") = some true
  tyC : typeIn K (.ref C) = some (.type "type")
  hdC : hasDictIn K C = true
  te : exmOne K (.ref C) (.ref C) = some true
  fn : ∃ (oc : Value) (od : Option Addr) (doc pm : Value) (an : Option Addr) (cdv ct : Value) (osl : Array (Option Value)) (p1 p2 q1 q2 q3 q4 : Pos),
    K.lookup fI = some ⟨oc, od, .func (fnOf "__init__" "NoUse.__init__" (iA p1 p2) (iB q1 q2 q3 q4) iS .none .none doc pm an cdv ct), osl⟩ ∧ codeIn K cdv "NoUse.__init__" = true
theorem one_size (v : Value) : [v].length ≤ sizeLine := by
  rw [sizeLine_eq]
  exact (by decide : 1 ≤ 16777216)
theorem ldC {M : Model} {s : Shared} {name : Str} {scope : Scope} {L a : Addr} {cd : Value} {m : Str → Option Value} {x : Str} {pos : Pos} {v : Value} {Q : Value → Shared → Prop} {A : Around} {E : Value → Shared → Prop} (hn : s.heap.Ns L m) (hv : m x = some v) (h : Q v s)
    (hk : scope.kind = .function := by rfl) (hl : (envOfC name scope L a cd).kindOf x = some .local := by rfl) (hd : (x == ("__debug__" : Str)) = false := by decide) :
    wpAny M A (eval (.Name x pos) (envOfC name scope L a cd)) Q E s := wpAny_Name (wpAny_loadName_local hk hl hn hv h) hd
/-- what __init__ leaves of a fresh exception at x -/
structure InitEnd (h h' : Heap) (x C dx t1 : Addr) (v : Value) : Prop where
  keep : ∀ b o, b ≠ x → h.get? b = some o → h'.get? b = some o
  obj : h'.get? x = some { cls := .ref C, dict := some dx, data := .fields #[.ref t1, .none, .none, .none, .bool false, .none] }
  dbig : h.objs.size ≤ dx
  dne : dx ≠ x
  ns : h'.Ns1 dx (fun y => if y = "at" then some v else none)
/-- a made Low -/
structure OwnMade (h h' : Heap) (e C d : Addr) (v : Value) : Prop where
  keep : ∀ b o, h.get? b = some o → h'.get? b = some o
  new : h.objs.size ≤ e
  obj : ∃ oe vs, h'.get? e = some oe ∧ oe.cls = .ref C ∧ oe.dict = some d ∧ oe.data = .fields vs ∧ vs[1]? = some .none ∧ vs[2]? = some .none
  dbig : h.objs.size ≤ d
  dne : d ≠ e
  ns : h'.Ns1 d (fun y => if y = "at" then some v else none)
section
variable {prog : Program} {w : World} {A : Around} {E : Value → Shared → Prop} {R : Result → Shared → Prop} {s : Shared} {K : Frag} {mg : Str → Option Value} {C fI : Addr}
theorem low_init (T : LowTxt K mg C fI) {x t0 : Addr} {v : Value} (X : K.In s.heap) (hlim : s.heap.NoLimit) (hx : s.heap.get? x = some (excO C t0)) (hnx : K.lookup x = none) (hroom : A.depth < recursionLimit)
    (hq : ∀ h' tk dx, InitEnd s.heap h' x C dx t0 v → R (.ok (.ret .none)) { s with heap := h', toks := tk }) :
    codeAny (model prog w) A (.call (.ref fI) ⟨[.ref x, v], []⟩) R s := by
  obtain ⟨oc, od, doc, pm, an, cdv, ct, osl, p1, p2, q1, q2, q3, q4, ho, hcd⟩ := T.fn
  obtain ⟨nm, q, N, bs, bm, sn, sub, ab, col, dd, k0, k1, k2, k3, k5, hC, hbm⟩ := T.cls
  have hcl : clsIn K C = some { name := nm, bases := bs, mro := .ref C :: bm, ns := N, qualname := q, hasDict := true, slotNames := sn, subclasses := sub, abstract := ab, collection := col, hasDel := false } := by unfold clsIn; rw [hC] <;> rfl
  refine Att.call_fn (binds := [("self", .ref x), ("at", v)]) X hlim ho hcd hroom (BindsTo.of_eq (by first | rfl | with_unfolding_all rfl)) (by first | rfl | decide | with_unfolding_all rfl) (fun s₁ IC => ?_) rfl rfl rfl
  obtain ⟨h₁, tk₁, rfl⟩ := IC.toInCall.same
  have k : ∀ b o, s.heap.get? b = some o → h₁.get? b = some o := IC.toInCall.keep
  have hn := IC.toInCall.ns
  have hxL : s.heap.objs.size ≠ x := Nat.ne_of_gt (Heap.lt_size hx)
  have X₁ : K.In h₁ := X.keeps k
  have hx₁ := k _ _ hx
  -- self.by = by
  show wpAny _ _ (execs _ _) _ _ _
  refine wpAny_execs_cons (plainObj_wpAny_Assign_Attribute ?_)
  refine ldC (v := v) hn (by first | rfl | with_unfolding_all rfl | kernel_rfl) (ldC (v := .ref x) hn (by first | rfl | with_unfolding_all rfl | kernel_rfl) ?_)
  refine set_plain X₁ (ox := excO C t0) (od := none) ⟨hx₁, rfl, rfl, trivial⟩ T.sa ?_
  refine exc_osa X₁ hx₁ hcl (show refsVE (.ref C :: bm) = true from hbm) rfl T.noN (fun h₃ tk₃ dx k₃ dn dne hx₃ hn₃ => ?_)
  show wpAny _ _ (execs _ _) _ _ _
  have z : s.heap.objs.size < h₁.objs.size := hn.lt
  exact wpAny_execs_nil (hq h₃ tk₃ dx ⟨fun b o hb e => k₃ b o hb (k b o e), hx₃, Nat.le_of_lt (Nat.lt_of_lt_of_le z dn), dne, hn₃⟩)
theorem low_made (T : LowTxt K mg C fI) {v : Value} (X : K.In s.heap) (hlim : s.heap.NoLimit) (hroom : A.depth + 1 < recursionLimit)
    (hq : ∀ h' tk e d, OwnMade s.heap h' e C d v → R (.ok (.ret (.ref e))) { s with heap := h', toks := tk }) :
    codeAny (model prog w) A (.call (.ref C) ⟨[v], []⟩) R s := by
  obtain ⟨nm, q, N, bs, bm, sn, sub, ab, col, dd, k0, k1, k2, k3, k5, hC, hbm⟩ := T.cls
  obtain ⟨hp, g, dr, tk, os⟩ := s
  have k : ∀ b o, hp.get? b = some o → ((hp.push (kdv_tup [v])).push (excO C hp.objs.size)).get? b = some o := fun b o e => Heap.get?_push_of_some _ (Heap.get?_push_of_some _ e)
  have hget : ((hp.push (kdv_tup [v])).push (excO C hp.objs.size)).get? (hp.objs.size + 1) = some (excO C hp.objs.size) := by heap_get
  have hnx : K.lookup (hp.objs.size + 1) = none := by
    cases e : K.lookup (hp.objs.size + 1) with
    | none => rfl
    | some o =>
      have z : hp.get? (hp.objs.size + 1) = some o := X _ _ e
      exact absurd (Nat.lt_of_succ_lt (Heap.lt_size z)) (Nat.lt_irrefl _)
  refine call_own F.excBase_ValueError (fun X => refsVE_contains X bm hbm) (X _ _ hC) (looks_findIn X T.iC) (fun self => bind_fn X self T.tC) (one_size v) ?_
  refine low_init (s := ⟨(hp.push (kdv_tup [v])).push (excO C hp.objs.size), g, dr, tk, os⟩) T (X.keeps k) (hlim.keeps k) hget hnx ?_ fun h' tk' dx ⟨k', hx, dn, dne, hns⟩ => ?_
  · show A.depth + 1 < recursionLimit
    exact hroom
  · have old : ∀ b o, hp.get? b = some o → h'.get? b = some o := fun b o e => k' b o (Nat.ne_of_lt (Nat.lt_succ_of_lt (Heap.lt_size e))) (k b o e)
    have z : hp.objs.size + 1 + 1 ≤ dx := by
      first
        | (simpa only [Heap.size_push] using dn)
        | exact dn
        | (have q := dn; rw [Heap.size_push, Heap.size_push] at q; exact q)
    exact ⟨rfl, hq h' tk' (hp.objs.size + 1) dx ⟨old, Nat.le_succ _, ⟨_, _, hx, rfl, rfl, rfl, rfl, rfl⟩, Nat.le_trans (Nat.le_trans (Nat.le_succ _) (Nat.le_succ _)) z, dne, hns⟩⟩
end
end LowX_NoUse
end PySem
namespace L2
open PySem PySem.Spec PyProof.Rows
section
variable {X : Cx} {C fI : Addr}
/-- Low(e) -/
def tMkLow_NoUse (C : Addr) (ta : TA) : St → Hp → XK → Prop := fun σ H Q => ta σ H fun vs H1 => ∃ v, vs = [v] ∧ ∀ d, H1 d = none → Q (.ref C) (some d) (upd H1 d (.xd [(("at" : Str), v)]))
/-- raise Low(e) -/
def tRaiseLow_NoUse (C : Addr) (W : WX) (ta : TA) : TS := fun _ σ H => tMkLow_NoUse C ta σ H fun cls d H' => W cls d σ H'
end
end L2

namespace PySem
namespace LowX_NotTurned
open PySem.W PySem.Calls PyProof.Rows PySem.HandSPX
/-! ### the text of __init__ -/
def iA (p1 p2 : Pos) : Arguments := { posonlyargs := [], args := [{ arg := "self", annotation := none, pos := p1 }, { arg := "number", annotation := none, pos := p2 }], vararg := none, kwonlyargs := [], kw_defaults := [], kwarg := none, defaults := [] }
def iB (q1 q2 q3 q4 : Pos) : List Stmt := [.Assign [.Attribute (.Name "self" q1) "number" q2] (.Name "number" q3) q4]
def iS : Scope := { kind := .function, names := [(PySem.Str.ofString "self", .local), (PySem.Str.ofString "number", .local)], isGenerator := false, isCoroutine := false, more := [] }
/-- what the written part says of Low, at C, and of its __init__, at fI -/
structure LowTxt (K : Frag) (mg : Str → Option Value) (C fI : Addr) : Prop where
  gC : mg "NotTurned" = some (.ref C)
  cls : ∃ nm q N bs bm sn sub ab col dd k0 k1 k2 k3 k5, K.lookup C = some (excClassObj nm q C N bs bm true sn sub ab col dd k0 k1 k2 k3 k5 "ValueError.__new__") ∧ refsVE bm = true
  sa : findIn K (.ref C) "__setattr__" = some (some (.builtin "object.__setattr__"))
  ga : findIn K (.ref C) "__getattribute__" = some (some (.builtin "BaseException.__getattribute__"))
  gg : findIn K (.ref C) "__getattr__" = some none
  noN : findIn K (.ref C) "number" = some none
  iC : findIn K (.ref C) "__init__" = some (some (.ref fI))
  tC : typeIn K (.ref fI) = some (.type "function")
  kC : keepIn K (.ref C) = true
  exC : subIn K (.ref C) (.type "BaseException") = some true
  tyC : typeIn K (.ref C) = some (.type "type")
  hdC : hasDictIn K C = true
  te : exmOne K (.ref C) (.ref C) = some true
  fn : ∃ (oc : Value) (od : Option Addr) (doc pm : Value) (an : Option Addr) (cdv ct : Value) (osl : Array (Option Value)) (p1 p2 q1 q2 q3 q4 : Pos),
    K.lookup fI = some ⟨oc, od, .func (fnOf "__init__" "NotTurned.__init__" (iA p1 p2) (iB q1 q2 q3 q4) iS .none .none doc pm an cdv ct), osl⟩ ∧ codeIn K cdv "NotTurned.__init__" = true
theorem one_size (v : Value) : [v].length ≤ sizeLine := by
  rw [sizeLine_eq]
  exact (by decide : 1 ≤ 16777216)
theorem ldC {M : Model} {s : Shared} {name : Str} {scope : Scope} {L a : Addr} {cd : Value} {m : Str → Option Value} {x : Str} {pos : Pos} {v : Value} {Q : Value → Shared → Prop} {A : Around} {E : Value → Shared → Prop} (hn : s.heap.Ns L m) (hv : m x = some v) (h : Q v s)
    (hk : scope.kind = .function := by rfl) (hl : (envOfC name scope L a cd).kindOf x = some .local := by rfl) (hd : (x == ("__debug__" : Str)) = false := by decide) :
    wpAny M A (eval (.Name x pos) (envOfC name scope L a cd)) Q E s := wpAny_Name (wpAny_loadName_local hk hl hn hv h) hd
/-- what __init__ leaves of a fresh exception at x -/
structure InitEnd (h h' : Heap) (x C dx t1 : Addr) (v : Value) : Prop where
  keep : ∀ b o, b ≠ x → h.get? b = some o → h'.get? b = some o
  obj : h'.get? x = some { cls := .ref C, dict := some dx, data := .fields #[.ref t1, .none, .none, .none, .bool false, .none] }
  dbig : h.objs.size ≤ dx
  dne : dx ≠ x
  ns : h'.Ns1 dx (fun y => if y = "number" then some v else none)
/-- a made Low -/
structure OwnMade (h h' : Heap) (e C d : Addr) (v : Value) : Prop where
  keep : ∀ b o, h.get? b = some o → h'.get? b = some o
  new : h.objs.size ≤ e
  obj : ∃ oe vs, h'.get? e = some oe ∧ oe.cls = .ref C ∧ oe.dict = some d ∧ oe.data = .fields vs ∧ vs[1]? = some .none
  dbig : h.objs.size ≤ d
  dne : d ≠ e
  ns : h'.Ns1 d (fun y => if y = "number" then some v else none)
section
variable {prog : Program} {w : World} {A : Around} {E : Value → Shared → Prop} {R : Result → Shared → Prop} {s : Shared} {K : Frag} {mg : Str → Option Value} {C fI : Addr}
theorem low_init (T : LowTxt K mg C fI) {x t0 : Addr} {v : Value} (X : K.In s.heap) (hlim : s.heap.NoLimit) (hx : s.heap.get? x = some (excO C t0)) (hnx : K.lookup x = none) (hroom : A.depth < recursionLimit)
    (hq : ∀ h' tk dx, InitEnd s.heap h' x C dx t0 v → R (.ok (.ret .none)) { s with heap := h', toks := tk }) :
    codeAny (model prog w) A (.call (.ref fI) ⟨[.ref x, v], []⟩) R s := by
  obtain ⟨oc, od, doc, pm, an, cdv, ct, osl, p1, p2, q1, q2, q3, q4, ho, hcd⟩ := T.fn
  obtain ⟨nm, q, N, bs, bm, sn, sub, ab, col, dd, k0, k1, k2, k3, k5, hC, hbm⟩ := T.cls
  have hcl : clsIn K C = some { name := nm, bases := bs, mro := .ref C :: bm, ns := N, qualname := q, hasDict := true, slotNames := sn, subclasses := sub, abstract := ab, collection := col, hasDel := false } := by unfold clsIn; rw [hC] <;> rfl
  refine Att.call_fn (binds := [("self", .ref x), ("number", v)]) X hlim ho hcd hroom (BindsTo.of_eq (by first | rfl | with_unfolding_all rfl)) (by first | rfl | decide | with_unfolding_all rfl) (fun s₁ IC => ?_) rfl rfl rfl
  obtain ⟨h₁, tk₁, rfl⟩ := IC.toInCall.same
  have k : ∀ b o, s.heap.get? b = some o → h₁.get? b = some o := IC.toInCall.keep
  have hn := IC.toInCall.ns
  have hxL : s.heap.objs.size ≠ x := Nat.ne_of_gt (Heap.lt_size hx)
  have X₁ : K.In h₁ := X.keeps k
  have hx₁ := k _ _ hx
  -- self.by = by
  show wpAny _ _ (execs _ _) _ _ _
  refine wpAny_execs_cons (plainObj_wpAny_Assign_Attribute ?_)
  refine ldC (v := v) hn (by first | rfl | with_unfolding_all rfl | kernel_rfl) (ldC (v := .ref x) hn (by first | rfl | with_unfolding_all rfl | kernel_rfl) ?_)
  refine set_plain X₁ (ox := excO C t0) (od := none) ⟨hx₁, rfl, rfl, trivial⟩ T.sa ?_
  refine exc_osa X₁ hx₁ hcl (show refsVE (.ref C :: bm) = true from hbm) rfl T.noN (fun h₃ tk₃ dx k₃ dn dne hx₃ hn₃ => ?_)
  show wpAny _ _ (execs _ _) _ _ _
  have z : s.heap.objs.size < h₁.objs.size := hn.lt
  exact wpAny_execs_nil (hq h₃ tk₃ dx ⟨fun b o hb e => k₃ b o hb (k b o e), hx₃, Nat.le_of_lt (Nat.lt_of_lt_of_le z dn), dne, hn₃⟩)
theorem low_made (T : LowTxt K mg C fI) {v : Value} (X : K.In s.heap) (hlim : s.heap.NoLimit) (hroom : A.depth + 1 < recursionLimit)
    (hq : ∀ h' tk e d, OwnMade s.heap h' e C d v → R (.ok (.ret (.ref e))) { s with heap := h', toks := tk }) :
    codeAny (model prog w) A (.call (.ref C) ⟨[v], []⟩) R s := by
  obtain ⟨nm, q, N, bs, bm, sn, sub, ab, col, dd, k0, k1, k2, k3, k5, hC, hbm⟩ := T.cls
  obtain ⟨hp, g, dr, tk, os⟩ := s
  have k : ∀ b o, hp.get? b = some o → ((hp.push (kdv_tup [v])).push (excO C hp.objs.size)).get? b = some o := fun b o e => Heap.get?_push_of_some _ (Heap.get?_push_of_some _ e)
  have hget : ((hp.push (kdv_tup [v])).push (excO C hp.objs.size)).get? (hp.objs.size + 1) = some (excO C hp.objs.size) := by heap_get
  have hnx : K.lookup (hp.objs.size + 1) = none := by
    cases e : K.lookup (hp.objs.size + 1) with
    | none => rfl
    | some o =>
      have z : hp.get? (hp.objs.size + 1) = some o := X _ _ e
      exact absurd (Nat.lt_of_succ_lt (Heap.lt_size z)) (Nat.lt_irrefl _)
  refine call_own F.excBase_ValueError (fun X => refsVE_contains X bm hbm) (X _ _ hC) (looks_findIn X T.iC) (fun self => bind_fn X self T.tC) (one_size v) ?_
  refine low_init (s := ⟨(hp.push (kdv_tup [v])).push (excO C hp.objs.size), g, dr, tk, os⟩) T (X.keeps k) (hlim.keeps k) hget hnx ?_ fun h' tk' dx ⟨k', hx, dn, dne, hns⟩ => ?_
  · show A.depth + 1 < recursionLimit
    exact hroom
  · have old : ∀ b o, hp.get? b = some o → h'.get? b = some o := fun b o e => k' b o (Nat.ne_of_lt (Nat.lt_succ_of_lt (Heap.lt_size e))) (k b o e)
    have z : hp.objs.size + 1 + 1 ≤ dx := by
      first
        | (simpa only [Heap.size_push] using dn)
        | exact dn
        | (have q := dn; rw [Heap.size_push, Heap.size_push] at q; exact q)
    exact ⟨rfl, hq h' tk' (hp.objs.size + 1) dx ⟨old, Nat.le_succ _, ⟨_, _, hx, rfl, rfl, rfl, rfl⟩, Nat.le_trans (Nat.le_trans (Nat.le_succ _) (Nat.le_succ _)) z, dne, hns⟩⟩
end
end LowX_NotTurned
end PySem
namespace L2
open PySem PySem.Spec PyProof.Rows
section
variable {X : Cx} {C fI : Addr}
/-- Low(e) -/
def tMkLow_NotTurned (C : Addr) (ta : TA) : St → Hp → XK → Prop := fun σ H Q => ta σ H fun vs H1 => ∃ v, vs = [v] ∧ ∀ d, H1 d = none → Q (.ref C) (some d) (upd H1 d (.xd [(("number" : Str), v)]))
/-- raise Low(e) -/
def tRaiseLow_NotTurned (C : Addr) (W : WX) (ta : TA) : TS := fun _ σ H => tMkLow_NotTurned C ta σ H fun cls d H' => W cls d σ H'
end
end L2


set_option Elab.async false
set_option linter.all false
set_option maxRecDepth 100000
set_option maxHeartbeats 2000000
/-! Vs3: errors of the program's own. -/
namespace Vs
open PySem L2
open Classical in
/-- what does not hang on where the caught error stands -/
noncomputable def allEq {α : Type} (F : Xo → Option α) : Option α := if ∀ o, F o = F ⟨0, .none, none⟩ then F ⟨0, .none, none⟩ else none
theorem allEq_of {α : Type} {F : Xo → Option α} {a : α} (h : allEq F = some a) (o : Xo) : F o = some a := by
  unfold allEq at h
  split at h
  · rename_i q
    rw [q o, h]
  · cases h
theorem allEq_const {α : Type} {a : Option α} : allEq (fun _ => a) = a := by
  unfold allEq
  rw [if_pos fun _ => rfl]
def fRaise0 (c : Nat) : Ss := fun e => some (.ex ⟨c, none⟩ e)
def fRaise1 (c : Nat) (m : Sm D) : Ss := sbnd m fun d e => match d with
  | .int z => some (.ex ⟨c, some z⟩ e)
  | _ => none
section
variable {X : Cx} {κ : Kx} {W : WX}
abbrev veB : List Value := [.type "ValueError", .type "Exception", .type "BaseException", .type "object"]
theorem s_raise0 {c : Nat} {x m : Str} {j : Nat} {p p2 pos pos2 : Pos} (hc : X.calm = true) (hK : X.K = κ.K) (hf : κ.xf c = none) (tk : Takes X W) (gC : X.mg x = some (.ref (κ.xc c))) (q : PySem.W.excIn κ.K (κ.xc c) veB "ValueError.__new__" = true) (kC : PySem.W.keepIn κ.K (.ref (κ.xc c)) = true)
    (bP : PySem.W.subIn κ.K (.ref (κ.xc c)) (.type "BaseException") = some true) (tP : PySem.W.typeIn κ.K (.ref (κ.xc c)) = some (.type "type")) (hg : Gl X x) (hdb : (x == ("__debug__" : Str)) = false := by decide) :
    PS X (.Raise (some (.Call (.Name x p) [.Constant (.str m) j p2] [] pos)) none pos2) (tS κ W (fRaise0 c)) := by
  rw [← hK] at q kC bP tP
  refine PS.imp (ps_raise hc tk (pmk_own PySem.F.excBase_ValueError q gC kC (raises_own bP tP) hg hdb)) fun D σ H ⟨G, env, r, h⟩ => ?_
  exact h _ none σ H G r ⟨rfl, by rw [hf]⟩ Fr.refl
theorem raise1_tr {c : Nat} {f : Str} {m : Sm D} {D0 : Ends} {σ : L2.St} {H : Hp} (hf : κ.xf c = some f) (h : tS κ W (fRaise1 c m) D0 σ H) :
    (tCons (tI κ W (RB κ) m) tNil) σ H fun vs H1 => ∃ v, vs = [v] ∧ ∀ d, H1 d = none → W (.ref (κ.xc c)) (some d) σ (upd H1 d (.xd [(f, v)])) := by
  obtain ⟨G, env, r, q⟩ := h
  refine sbind_post r q fun d e1 v H1 G1 _ r1 rv f1 q1 => ?_
  cases d with
  | int z =>
    refine ⟨v, rfl, fun b hb => ?_⟩
    have st := new_sh (o := .xd [(f, v)]) r1 hb
    refine q1 _ _ σ _ _ st.rep ⟨rfl, ?_⟩ st.fr
    rw [hf]
    exact ⟨b, rfl, by show upd G1.g b _ b = _; rw [upd_same, RBq.int rv]⟩
  | _ => exact q1.elim
theorem s_raise_NoWord {c : Nat} {fI : Addr} {a : Expr} {m : Sm D} {p pos pos2 : Pos} {k : Nat} (hc : X.calm = true) (hK : X.K = κ.K) (hf : κ.xf c = some "place") (T : PySem.LowX_NoWord.LowTxt κ.K X.mg (κ.xc c) fI) (hr : Room k X.A) (tk : Takes X W) (he : PE X a (tX κ W (RB κ) m)) (hg : Gl X "NoWord" := by rfl)
    (hs : starEach (a :: []) X.env = (false, eval a X.env) :: starEach [] X.env := by rfl) (hpl : (backTo pos (starEach [] X.env)).any (·.1) = false := by rfl) : PS X (.Raise (some (.Call (.Name "NoWord" p) [a] [] pos)) none pos2) (tS κ W (fRaise1 c m)) := by
  rw [← hK] at T
  exact PS.imp (ps_raiseLow_NoWord hc T hr tk (pa_cons (im he) pa_nil hs) hg hs hpl) fun D σ H h => raise1_tr hf h
end
/-! ### try -/
def aftr (i : Nat) : Option SO → Option SO
  | some (.nx e) => some (.nx (e.set i .un))
  | some (.bk e) => some (.bk (e.set i .un))
  | some (.ct e) => some (.ct (e.set i .un))
  | some (.rt r) => some (.rt r)
  | some (.rv r e) => some (.rv r (e.set i .un))
  | _ => none
def noX : Option SO → Option SO
  | some (.ex _ _) => none
  | o => o
/-- except X as n -/
noncomputable def sTryAs (xs : Nat → Nat → Option Bool) (h i : Nat) (body : Ss) (suite : Xo → Ss) : Ss := fun e => match body e with
  | some (.ex x e1) => match xs x.c h with
    | some true => if i < e1.length then allEq fun o => aftr i (suite o (e1.set i (.sh (.xn o x)))) else none
    | some false => some (.ex x e1)
    | none => none
  | o => o
/-- except X -/
def sTry (xs : Nat → Nat → Option Bool) (h : Nat) (body suite : Ss) : Ss := fun e => match body e with
  | some (.ex x e1) => match xs x.c h with
    | some true => noX (suite e1)
    | some false => some (.ex x e1)
    | none => none
  | o => o
/-- the classes' kinship as the written part tells it -/
def XsOk (κ : Kx) (xs : Nat → Nat → Option Bool) (h : Nat) : Prop := ∀ c b, xs c h = some b → PySem.W.exmOne κ.K (.ref (κ.xc c)) (.ref (κ.xc h)) = some b
section
variable {X : Cx} {κ : Kx} {W : WX}
theorem Rep.goneS {H : Hp} {G : Gh} {σ : L2.St} {env : En} (r : Rep κ H G σ env) (i : Nat) : Rep κ H (G.put i []) (σ.set i none) (env.set i .un) ∧ Fr H G σ env H (G.put i []) (σ.set i none) (env.set i .un) := by
  have u : UnAt [i] (env.set i .un) := fun v hv s e => by
    have hv : v = i := by simpa using hv
    subst hv
    rcases set_look e with ⟨_, q⟩ | ⟨q, _⟩
    · exact q
    · exact (q rfl).elim
  have o : Off [i] σ (σ.set i none) := off_set (by simp)
  exact ⟨(r.drop1 i).off u o (List.length_set ..), (Fr.drop1 i).offR u o⟩
theorem SPost.aftr {i : Nat} {σ : L2.St} {H : Hp} {G : Gh} {env : En} {D0 : Ends} {o : Option SO} (q : SPost κ W σ H G env (aftr i o) D0) :
    SPost κ WF σ H G env o { nx := fun σ' H' => D0.nx (σ'.set i none) H', rt := D0.rt, bk := fun σ' H' => D0.bk (σ'.set i none) H', ct := fun σ' H' => D0.ct (σ'.set i none) H' } := by
  cases o with
  | none => exact q
  | some o => cases o with
    | nx e => exact fun σ' H' G' r f => q _ H' _ (r.goneS i).1 (f.trans (r.goneS i).2)
    | bk e => exact fun σ' H' G' r f => q _ H' _ (r.goneS i).1 (f.trans (r.goneS i).2)
    | ct e => exact fun σ' H' G' r f => q _ H' _ (r.goneS i).1 (f.trans (r.goneS i).2)
    | rt z => exact q
    | rv z e =>
      intro v σ' H' G' r rv f
      refine q v _ H' _ (r.goneS i).1 ?_ (f.trans (r.goneS i).2)
      have fr : ∀ a, Fre G' e a → Fre (G'.put i []) (e.set i .un) a := fun a h j t e1 m => by
        rcases set_look e1 with ⟨rfl, rfl⟩ | ⟨w, e2⟩
        · rw [put_at] at m; cases m
        · rw [put_ne w] at m; exact h j t e2 m
      cases z with
      | sh d => exact rv
      | ow l =>
        obtain ⟨a, xs, h1, h2, h3, h4, h5, h6⟩ := rv
        exact ⟨a, xs, h1, h2, h3, h4, fr a h5, h6⟩
      | tr o =>
        obtain ⟨F, h1, h2⟩ := rv
        exact ⟨F, h1, fun a m => ⟨fr a (h2 a m).1, (h2 a m).2⟩⟩
    | ex x e => exact q.elim
theorem SPost.noX {σ : L2.St} {H : Hp} {G : Gh} {env : En} {D0 : Ends} {o : Option SO} (q : SPost κ W σ H G env (noX o) D0) : SPost κ WF σ H G env o D0 := by
  cases o with
  | none => exact q
  | some o => cases o with
    | ex x e => exact q.elim
    | _ => exact q
variable {x n : Str} {h i : Nat} {xs : Nat → Nat → Option Bool} {body suite : List Stmt} {b₀ : Stmt} {np pos pos' : Pos} {mb : Ss} {ms : Xo → Ss} {m0 : Ss}
theorem s_tryAs (hs : X.stack = X.env :: X.outer) (hf : X.env.frame = some X.env.locals) (hN : X.N.Nodup) (hi : X.N[i]? = some n) (hln : X.env.kindOf n = some .local) (hK : X.K = κ.K) (hc : Names X x (.ref (κ.xc h))) (hx : XsOk κ xs h) (tk : Takes X W)
    (hb : ∀ (W : WX) (pn : List (Addr × Obj)) (xe : Value → Shared → Prop), Takes (X.tr pn xe) W → PassesOwn (model X.prog X.w) X.A X.env xe → PSs (X.tr pn xe) body (tS κ W mb))
    (hsu : ∀ (a : Addr) (oe : Obj) (cls : Value) (d : Option Addr) (pn : List (Addr × Obj)), Zc cls d oe → (∃ vs, oe.data = .fields vs) → PSs (X.suite a ((a, oe) :: pn)) (b₀ :: suite) (tS κ WF (ms ⟨a, cls, d⟩))) :
    PS X (.Try body [.ExceptHandler (some (.Name x np)) (some n) (b₀ :: suite) pos'] [] [] pos) (tS κ W (sTryAs xs h i mb ms)) :=
  PS.imp (ps_try_as (tb := fun W => tS κ W mb) (ts := fun a cls d => tS κ WF (ms ⟨a, cls, d⟩)) hs hf hN hi hln hc tk hb hsu) fun D0 σ H ⟨G, env, r, q⟩ => by
    refine ⟨G, env, r, ?_⟩
    unfold sTryAs at q
    cases w : mb env with
    | none => rw [w] at q; exact q
    | some o => cases o with
      | nx e => rw [w] at q; exact q
      | bk e => rw [w] at q; exact q
      | ct e => rw [w] at q; exact q
      | rt e => rw [w] at q; exact q
      | rv e e2 => rw [w] at q; exact q
      | ex y e1 =>
        rw [w] at q
        dsimp only at q
        intro c d σ1 H1 G1 r1 xr f1
        cases z : xs y.c h with
        | none => rw [z] at q; exact q.elim
        | some b =>
          rw [z] at q
          refine ⟨b, ?_, fun hb a ha => ?_, fun hb => ?_⟩
          · rw [xr.1, hK]
            exact hx _ _ z
          · subst hb
            dsimp only at q
            by_cases hl : i < e1.length
            · rw [if_pos hl] at q
              obtain ⟨G2, _, r2, f2⟩ := rep_sh (v := .ref a) (d := .xn ⟨a, c, d⟩ y) r1 hl (.xn (o := ⟨a, c, d⟩) xr)
              refine ⟨G2, _, r2, ?_⟩
              cases z2 : allEq fun o => aftr i (ms o (e1.set i (.sh (.xn o y)))) with
              | none => rw [z2] at q; exact q.elim
              | some u =>
                rw [z2] at q
                have e2 := allEq_of z2 ⟨a, c, d⟩
                rw [← e2] at q
                exact SPost.aftr (SPost.shift (f1.trans f2) q)
            · rw [if_neg hl] at q; exact q.elim
          · subst hb
            exact q c d σ1 H1 G1 r1 xr f1
/-! ### the caught error asked -/
open Classical in
/-- e.f -/
noncomputable def fXf (xfn : Nat → Option Str) (o : Xo) (i : Nat) (f : Str) : Sm D := fun env => match env[i]? with
  | some (.sh (.xn o' x)) => if o' = o ∧ xfn x.c = some f then match x.a with
    | some z => some (.ok (.int z) env)
    | none => none
    else none
  | _ => none
/-- what the written part says of an error class, for isinstance -/
structure IsC (K : PySem.W.Frag) (C : Addr) : Prop where
  ic : PySem.W.isClsIn K C = true
  ga : PySem.W.findIn K (.ref C) "__getattribute__" = some (some (.builtin "BaseException.__getattribute__"))
  gg : PySem.W.findIn K (.ref C) "__getattr__" = some none
  sb : PySem.W.subIn K (.ref C) (.type "BaseException") = some true
  ha : PySem.W.findIn K (.ref C) "__class__" = some (some (.builtin "object.__class__"))
  mo : PySem.W.mroIn K C (.type "object") = some true
structure IsB (K : PySem.W.Frag) : Prop where
  hn : PySem.W.specialIn K (.builtin "object.__class__") "__get__" = some (some (.builtin "getset_descriptor.__get__"))
  ht : PySem.W.takesIn K (.builtin "object.__class__") = some true
def KsOk (κ : Kx) (us : List Value) (t : Nat → Option Bool) : Prop := ∀ c b, t c = some b → IsC κ.K (κ.xc c) ∧ PySem.W.kitAny κ.K (.ref (κ.xc c)) us = some b
def rIsX (κ : Kx) (cls : Value) (d : Option Addr) (a : Addr) : List V → Hp → VK → Prop := fun xs H Q => ∃ (c : V) (cv : Value) (b : Bool) (y : Ex), xs = [.ref a, c] ∧ ClsV c cv ∧ XR κ H y cls d ∧ IsC κ.K (κ.xc y.c) ∧ PySem.W.kitOne κ.K cls cv = some b ∧ Q (.bl b) H
def rIsXT (κ : Kx) (cls : Value) (d : Option Addr) (a : Addr) : List V → Hp → VK → Prop := fun xs H Q => ∃ (tp : Addr) (cs : List V) (us : List Value) (b : Bool) (y : Ex), xs = [.ref a, .ref tp] ∧ H tp = some (.tup cs) ∧ Paired ClsV cs us ∧ XR κ H y cls d ∧ IsC κ.K (κ.xc y.c) ∧ PySem.W.kitAny κ.K cls us = some b ∧ Q (.bl b) H
theorem inst_x {a : Addr} {oe : Obj} {cls : Value} {d : Option Addr} {pn pins : List (Addr × Obj)} {σ : L2.St} {H : Hp} {s : Shared} {y : Ex} (hK : X.K = κ.K) (hB : IsB κ.K) (hz : Zc cls d oe) (hf : ∃ vs, oe.data = .fields vs) (I : Inv (X.suite a ((a, oe) :: pn)) pins σ H s) (xr : XR κ H y cls d) (ic : IsC κ.K (κ.xc y.c)) :
    ∃ P : Heap → Prop, PySem.W.KitX κ.K (.ref a) cls P ∧ P s.heap := by
  obtain ⟨ha, _⟩ := I.pin (a, oe) (List.mem_append_left _ List.mem_cons_self)
  obtain ⟨vs, hd⟩ := hf
  obtain ⟨ec, x2⟩ := xr
  subst ec
  have nc : PySem.W.notCls oe = true := by unfold PySem.W.notCls; rw [hd] <;> rfl
  have fin : ∀ {od : Option Obj}, PySem.W.InstAt s.heap a oe (κ.xc y.c) od → ∃ P : Heap → Prop, PySem.W.KitX κ.K (.ref a) (.ref (κ.xc y.c)) P ∧ P s.heap := fun {od} J =>
    ⟨_, PySem.W.kitx_exc ic.ic ic.ga ic.gg ic.sb ic.ha hB.hn hB.ht ic.mo, J⟩
  cases d with
  | none => exact fin (od := none) ⟨ha, hz.1, nc, by rw [hz.2]; trivial⟩
  | some dd =>
    split at x2
    · cases x2
    · obtain ⟨b, eb, hb⟩ := x2
      cases eb
      have hx := I.hok dd _ hb
      obtain ⟨mA, hns, hr⟩ := hx
      obtain ⟨od, ho, hl⟩ := lookIn_ns hns
      exact fin (od := some od) ⟨ha, hz.1, nc, by rw [hz.2]; exact ho⟩
    · exact x2.elim
theorem call_isX {a : Addr} {oe : Obj} {cls : Value} {d : Option Addr} {pn : List (Addr × Obj)} (hK : X.K = κ.K) (hB : IsB κ.K) (hz : Zc cls d oe) (hf : ∃ vs, oe.data = .fields vs) : CallR (X.suite a ((a, oe) :: pn)) (.builtin "isinstance") (rIsX κ cls d a) := by
  intro pins s σ H xs us Q I r h
  obtain ⟨c, cv, b, y, rfl, k, xr, ic, e, q⟩ := h
  obtain ⟨u1, u2, rfl, r1, r2⟩ := vals2 r
  cases (show u1 = Value.ref a from r1)
  have e2 := k.eq r2
  subst e2
  obtain ⟨P, Z, p⟩ := inst_x hK hB hz hf I xr ic
  have kin : κ.K.In s.heap := hK ▸ I.kIn
  exact PySem.W.kia_one Z kin p e (fun z => nomatch z) fun tk => ⟨.bl b, H, I.tok tk, rfl, q⟩
theorem call_isXT {a : Addr} {oe : Obj} {cls : Value} {d : Option Addr} {pn : List (Addr × Obj)} (hK : X.K = κ.K) (hB : IsB κ.K) (hz : Zc cls d oe) (hf : ∃ vs, oe.data = .fields vs) : CallR (X.suite a ((a, oe) :: pn)) (.builtin "isinstance") (rIsXT κ cls d a) := by
  intro pins s σ H xs us Q I r h
  obtain ⟨tp, cs, ws, b, y, rfl, hT, k, xr, ic, e, q⟩ := h
  obtain ⟨u1, u2, rfl, r1, r2⟩ := vals2 r
  cases (show u1 = Value.ref a from r1)
  cases (show u2 = Value.ref tp from r2)
  obtain ⟨P, Z, p⟩ := inst_x hK hB hz hf I xr ic
  have kin : κ.K.In s.heap := hK ▸ I.kIn
  obtain ⟨_, its, rv, o, h1, h2, n, h3⟩ := (show ObjOk X.prog X.w H s.heap tp (.tup cs) from I.hok tp _ hT)
  have e3 := ClsV.all k rv
  subst e3
  obtain ⟨oc, od, dt, sl⟩ := o
  simp only at h2 h3
  subst h2 h3
  exact PySem.W.kia_tup Z kin p h1 e (fun z => nomatch z) fun tk => ⟨.bl b, H, I.tok tk, rfl, q⟩
open Classical in
/-- isinstance(e, ..) -/
noncomputable def fXi (t : Nat → Option Bool) (o : Xo) (i : Nat) : Sm D := fun env => match env[i]? with
  | some (.sh (.xn o' x)) => if o' = o then match t x.c with
    | some b => some (.ok (.bl b) env)
    | none => none
    else none
  | _ => none
theorem fxi_of {t : Nat → Option Bool} {o : Xo} {i : Nat} {σ : L2.St} {H : Hp} {G : Gh} {env : En} {P : V → Hp → Prop} (r : Rep κ H G σ env) (q : EPost κ W (RP κ) σ H G env (fXi t o i env) P) : ∃ (y : Ex) (b : Bool), σ[i]? = some (some (.ref o.a)) ∧ XR κ H y o.cls o.d ∧ t y.c = some b ∧ EPost κ W (RP κ) σ H G env (some (.ok (.bl b) env)) P := by
  unfold fXi at q
  split at q
  · rename_i o' x' e
    split at q
    · rename_i w
      subst w
      obtain ⟨_, v, h1, h2⟩ := r.slot i _ e
      cases h2 with
      | xn xr =>
        cases z : t x'.c with
        | none => rw [z] at q; exact q.elim
        | some b => rw [z] at q; exact ⟨x', b, h1, xr.mono r.sub, z, q⟩
    · exact q.elim
  · exact q.elim
theorem v_isX {a : Addr} {oe : Obj} {cls : Value} {d : Option Addr} {pn : List (Addr × Obj)} {p p2 pos : Pos} {T : Str} {cV : V} {cv : Value} {t : Nat → Option Bool} (hK : X.K = κ.K) (hB : IsB κ.K) (hk : KsOk κ [cv] t) (hz : Zc cls d oe) (hf : ∃ vs, oe.data = .fields vs) (hg : Gl X "isinstance") (hm : X.mg "isinstance" = none) (hcv : ClsV cV cv)
    (hT : PE (X.suite a ((a, oe) :: pn)) (.Name T p2) (tC cV)) (ho : PE (X.suite a ((a, oe) :: pn)) (.Name x np) (tVar i))
    (hv : bootBuiltins "isinstance" = some (.builtin "isinstance") := by decide +kernel) (hst : starEach [.Name x np, .Name T p2] X.env = [(false, eval (.Name x np) X.env), (false, eval (.Name T p2) X.env)] := by rfl) (hst2 : starEach [.Name T p2] X.env = [(false, eval (.Name T p2) X.env)] := by rfl) (hpl : (backTo pos (starEach [.Name T p2] X.env)).any (·.1) = false := by rfl) :
    PE (X.suite a ((a, oe) :: pn)) (.Call (.Name "isinstance" p) [.Name x np, .Name T p2] [] pos) (tX κ W (RP κ) (fXi t ⟨a, cls, d⟩ i)) :=
  PE.imp (pe_callB (X := X.suite a ((a, oe) :: pn)) (call_isX hK hB hz hf) hg hm hv (pa_cons ho (pa_cons hT pa_nil (by rw [hst2]; rfl)) (by rw [hst, hst2])) (by decide) (by decide) (by rw [hst, hst2]) hpl) fun σ H Q ⟨G, env, rp, q⟩ => by
    obtain ⟨y, b, h1, xr, e, q1⟩ := fxi_of rp q
    obtain ⟨ic, k1⟩ := hk _ _ e
    have k2 : PySem.W.kitOne κ.K (.ref (κ.xc y.c)) cv = some b := by
      unfold PySem.W.kitAny at k1
      split at k1
      · rename_i z; rw [z, ← k1]
      · rename_i z; unfold PySem.W.kitAny at k1; rw [z, ← k1]
      · cases k1
    exact ⟨.ref a, h1, cV, cv, b, y, rfl, hcv, xr, ic, by rw [show cls = .ref (κ.xc y.c) from xr.1]; exact k2, q1 _ H G rp (.bl b) (Grw.refl _) Fr.refl⟩
end
section
variable {X : Cx} {κ : Kx} {W : WX} {x : Str} {np : Pos} {i : Nat}
/-- isinstance(e, (A, B)) of the caught error -/
theorem v_isXT {a : Addr} {oe : Obj} {cls : Value} {d : Option Addr} {pn : List (Addr × Obj)} {p p1 p2 pt pos : Pos} {k2 : Nat} {T1 T2 : Str} {cV1 cV2 : V} {cv1 cv2 : Value} {t : Nat → Option Bool} (hK : X.K = κ.K) (hB : IsB κ.K) (hk : KsOk κ [cv1, cv2] t) (hz : Zc cls d oe) (hf : ∃ vs, oe.data = .fields vs) (hg : Gl X "isinstance") (hm : X.mg "isinstance" = none) (h1 : ClsV cV1 cv1) (h2 : ClsV cV2 cv2)
    (hT1 : PE (X.suite a ((a, oe) :: pn)) (.Name T1 p1) (tC cV1)) (hT2 : PE (X.suite a ((a, oe) :: pn)) (.Name T2 p2) (tC cV2)) (ho : PE (X.suite a ((a, oe) :: pn)) (.Name x np) (tVar i))
    (hv : bootBuiltins "isinstance" = some (.builtin "isinstance") := by decide +kernel) (hs1 : starEach [.Name T1 p1, .Name T2 p2] X.env = [(false, eval (.Name T1 p1) X.env), (false, eval (.Name T2 p2) X.env)] := by rfl) (hs2 : starEach [.Name T2 p2] X.env = [(false, eval (.Name T2 p2) X.env)] := by rfl)
    (hst : starEach [.Name x np, .Tuple [.Name T1 p1, .Name T2 p2] k2 pt] X.env = [(false, eval (.Name x np) X.env), (false, eval (.Tuple [.Name T1 p1, .Name T2 p2] k2 pt) X.env)] := by rfl) (hst2 : starEach [.Tuple [.Name T1 p1, .Name T2 p2] k2 pt] X.env = [(false, eval (.Tuple [.Name T1 p1, .Name T2 p2] k2 pt) X.env)] := by rfl) (hpl : (backTo pos (starEach [.Tuple [.Name T1 p1, .Name T2 p2] k2 pt] X.env)).any (·.1) = false := by rfl) :
    PE (X.suite a ((a, oe) :: pn)) (.Call (.Name "isinstance" p) [.Name x np, .Tuple [.Name T1 p1, .Name T2 p2] k2 pt] [] pos) (tX κ W (RP κ) (fXi t ⟨a, cls, d⟩ i)) :=
  PE.imp (pe_callB (X := X.suite a ((a, oe) :: pn)) (call_isXT hK hB hz hf) hg hm hv (pa_cons ho (pa_cons (pe_tup (pa_cons hT1 (pa_cons hT2 pa_nil (by rw [hs2]; rfl)) (by rw [hs1, hs2]))) pa_nil (by rw [hst2]; rfl)) (by rw [hst, hst2])) (by decide) (by decide) (by rw [hst, hst2]) hpl) fun σ H Q ⟨G, env, rp, q⟩ => by
    obtain ⟨y, b, e1, xr, e, q1⟩ := fxi_of rp q
    obtain ⟨ic, k1⟩ := hk _ _ e
    refine ⟨.ref a, e1, (show 2 ≤ sizeLine by decide), fun tp htp => ?_⟩
    have st := new_sh (o := .tup [cV1, cV2]) rp htp
    refine ⟨tp, [cV1, cV2], [cv1, cv2], b, y, rfl, upd_same, .cons h1 (.cons h2 .nil), xr.mono (same_new htp), ic, by rw [show cls = .ref (κ.xc y.c) from xr.1]; exact k1, ?_⟩
    exact q1 _ _ _ st.rep (.bl b) st.same st.fr
end
/-! ### a default -/
theorem RBs.snoc {κ : Kx} {H G : Hp} {m : Bool} {v : V} {d : D} (r : Rp κ G v d) : ∀ {ms : List Bool} {vs : List V} {ds : List D}, RBs κ H G ms vs ds → RBs κ H G (ms ++ [m]) (vs ++ [v]) (ds ++ [d])
  | _, _, _, .nil => by
    cases m with
    | true => exact .bo (.inl r) .nil
    | false => exact .sh r .nil
  | _, _, _, .sh a t => .sh a (RBs.snoc r t)
  | _, _, _, .bo a t => .bo a (RBs.snoc r t)
/-- a def whose last parameter has a number as its default -/
structure VFnD (P : Program) (w : World) (κ : Kx) (mg : Str → Option Value) (base : Heap) (x : Str) (k : Nat) (ms : List Bool) (g : FSem) (dv : Int) : Prop where
  ex : ∃ (f : Addr) (fd : FuncData) (ps : List Str), mg x = some (.ref f) ∧ PySem.W.keepIn κ.K (.ref f) = true ∧ FnOk P w κ.K mg base (L2.CX P w) k f fd ps (spV κ ms g) ∧ Binds κ.K fd ps [] ∧ ∃ ds, Vals [V.int dv] ds ∧ Binds κ.K fd ps ds
theorem VFnD.v {P : Program} {w : World} {κ : Kx} {mg : Str → Option Value} {base : Heap} {x : Str} {k : Nat} {ms : List Bool} {g : FSem} {dv : Int} (F : VFnD P w κ mg base x k ms g dv) : VFn P w κ mg base x k ms g := by
  obtain ⟨f, fd, ps, h1, h2, h3, h4, _⟩ := F.ex
  exact ⟨f, fd, ps, h1, h2, h3, h4⟩
def fCallD (g : FSem) (dv : Int) (m : Sm (List D)) : Sm Rs := bnd m fun ds e => match g (ds ++ [.int dv]) with
  | some (.rt r) => some (.ok r e)
  | some (.ex x) => some (.ex x e)
  | none => none
section
variable {X : Cx} {κ : Kx} {W : WX} {e : Expr} {es : List Expr} {ms : List Bool} {g : FSem} {mr : Sm (List D)} {k : Nat} {x : Str} {p pos : Pos} {dv : Int} {m : Bool}
end
theorem FunD.two {κ : Kx} {x qual : Str} {st : Stmt} {f : Addr} {fd : FuncData} {ps : List Str} {dv : Int} (F : FunD κ.K x qual (defArgs st) (defBody st) (defScope st) [V.int dv] [] f fd) (n : Nat) (hn : n + 1 = ps.length)
    (h1 : ∀ (T : Addr) (kV doc pm : Value) (an : Option Addr) (cdv ct : Value) (us : List Value) (d : Value), us.length = n → ∃ k, bindArgs (PySem.W.fnOf x qual (defArgs st) (defBody st) (defScope st) (.ref T) kV doc pm an cdv ct) ⟨us, []⟩ = seqItems? (.ref T) >>= k ∧ k (some #[d]) = pure (ps.zip (us ++ [d])))
    (h2 : ∀ (T : Addr) (kV doc pm : Value) (an : Option Addr) (cdv ct : Value) (us : List Value) (d : Value), us.length = n + 1 → ∃ k, bindArgs (PySem.W.fnOf x qual (defArgs st) (defBody st) (defScope st) (.ref T) kV doc pm an cdv ct) ⟨us, []⟩ = seqItems? (.ref T) >>= k ∧ k (some #[d]) = pure (ps.zip us)) :
    Binds κ.K fd ps [] ∧ ∃ ds, Vals [V.int dv] ds ∧ Binds κ.K fd ps ds := by
  constructor
  · obtain ⟨ds, hv, hb⟩ := F.binds1 (n + 1) 1 (by simp) (by simpa using hn) fun T kV doc pm an cdv ct us its hu hi => by
      match its, hi with
      | [d], _ =>
        obtain ⟨k, e1, e2⟩ := h2 T kV doc pm an cdv ct us d hu
        exact ⟨k, e1, by rw [show ([d] : List Value).drop 1 = [] from rfl, List.append_nil]; exact e2⟩
    cases hv
    exact hb
  · exact F.binds1 n 0 (by simp) (by simpa using hn) fun T kV doc pm an cdv ct us its hu hi => by
      match its, hi with
      | [d], _ => exact h1 T kV doc pm an cdv ct us d hu
/-! ### kinship from the written part -/
section
variable {K : PySem.W.Frag} {S C : Addr} {b : Bool}
theorem exm_ofs {c : Value} (h1 : PySem.W.subIn K (.ref S) (.type "BaseException") = some true) (h2 : PySem.W.isClsIn K S = true) (h3 : PySem.W.typeIn K (.ref S) = some (.type "type")) (h4 : PySem.W.subIn K c (.ref S) = some b) : PySem.W.exmOne K c (.ref S) = some b := by
  have e1 : (PySem.W.subIn K (.ref S) (.type "BaseException") == some true) = true := by rw [h1] <;> rfl
  have e2 : ((PySem.W.clsIn K S).isSome && PySem.W.typeIn K (.ref S) == some (.type "type")) = true := by
    have h2' : (PySem.W.clsIn K S).isSome = true := h2
    rw [h2', h3] <;> rfl
  show (if (PySem.W.subIn K (.ref S) (.type "BaseException") == some true) = true then (if ((PySem.W.clsIn K S).isSome && PySem.W.typeIn K (.ref S) == some (.type "type")) = true then PySem.W.subIn K c (.ref S) else none) else none) = some b
  rw [if_pos e1, if_pos e2]
  exact h4
theorem kit_ofs (hn : (Value.ref C == Value.ref S) = false) (h2 : PySem.W.isClsIn K S = true) (h3 : PySem.W.typeIn K (.ref S) = some (.type "type")) (h4 : PySem.W.subIn K (.ref C) (.ref S) = some b) : PySem.W.kitAny K (.ref C) [.ref S] = some b := by
  have e2 : ((PySem.W.clsIn K S).isSome && PySem.W.typeIn K (.ref S) == some (.type "type")) = true := by
    have h2' : (PySem.W.clsIn K S).isSome = true := h2
    rw [h2', h3] <;> rfl
  have e : PySem.W.kitOne K (.ref C) (.ref S) = some b := by
    unfold PySem.W.kitOne
    rw [hn, if_neg Bool.false_ne_true]
    show (if ((PySem.W.clsIn K S).isSome && PySem.W.typeIn K (.ref S) == some (.type "type")) = true then PySem.W.subIn K (.ref C) (.ref S) else none) = some b
    rw [if_pos e2]
    exact h4
  cases b with
  | true => exact kitAny_cons e (fun h => nomatch h) fun _ => rfl
  | false => exact kitAny_cons e (fun _ => rfl) fun h => nomatch h
theorem kit_two {t A B : Value} {b1 b2 : Bool} (h1 : PySem.W.kitAny K t [A] = some b1) (h2 : PySem.W.kitAny K t [B] = some b2) : PySem.W.kitAny K t [A, B] = some (b1 || b2) := by
  unfold PySem.W.kitAny at h1
  split at h1
  · rename_i z
    cases h1
    unfold PySem.W.kitAny
    rw [z]
    rfl
  · rename_i z
    cases h1
    unfold PySem.W.kitAny
    rw [z]
    exact h2
  · cases h1
theorem kit_self : PySem.W.kitAny K (.ref C) [.ref C] = some true := by
  have e : PySem.W.kitOne K (.ref C) (.ref C) = some true := by
    unfold PySem.W.kitOne
    rw [if_pos (beq_self_eq_true _)]
  exact kitAny_cons e (fun h => nomatch h) fun _ => rfl
end
end Vs


set_option Elab.async false
set_option linter.all false
set_option maxRecDepth 100000
set_option maxHeartbeats 2000000
/-! Vs4: more of the built-ins. -/
namespace Vs
open PySem L2
/-! ### < over data -/
def rLtD (K : PySem.W.Frag) : R2 := fun x y H Q => ∃ d e, Dp K H x d ∧ Dp K H y e ∧ PySem.W.alike d e = true ∧ d ≠ .none ∧ d.depth ≤ 64 ∧ Q (.bl (PySem.W.dataLt d e)) H
theorem op_ltD {X : Cx} (hu : X.A.units + 64 < cLine) : OpR X (compareOp .Lt) (rLtD X.K) := by
  intro pins s σ H x y v u Q I rx ry h
  obtain ⟨d, e, hd, he, ha, hn, hz, q⟩ := h
  obtain ⟨as, r1⟩ := Dp.reads I d x v hd rx
  obtain ⟨bs, r2⟩ := Dp.reads I e y u he ry
  exact PySem.W.lt_data r1 r2 ha hn (by omega) ⟨.bl _, H, I, rfl, q⟩
def dLt (x y : D) : Option Bool := if x.pl = true ∧ y.pl = true ∧ PySem.W.alike x.toP y.toP = true ∧ x.toP.depth ≤ 64 then some (PySem.W.dataLt x.toP y.toP) else none
def cLtA : D → D → Option Bool
  | .int i, .int j => some (decide (i < j))
  | .str a, .str b => some (decide (a < b))
  | .lst a, .lst b => dLt (.lst a) (.lst b)
  | .tup a, .tup b => dLt (.tup a) (.tup b)
  | _, _ => none
def rLtA (κ : Kx) : R2 := fun x y H Q => rCm (fun i j => decide (i < j)) (fun a b => decide (a < b)) x y H Q ∨ rLtD κ.K x y H Q
theorem o_ltA {X : Cx} {κ : Kx} (hK : X.K = κ.K) (hu : X.A.units + 64 < cLine) : OpR X (compareOp .Lt) (rLtA κ) := by
  unfold rLtA
  rw [← hK]
  exact OpR.or o_lt (op_ltD hu)
theorem dLt_of {κ : Kx} {x y : V} {dx dy : D} {z : Bool} {H G : Hp} {Q : VK} (hn : dx.toP ≠ .none) (e : dLt dx dy = some z) (s : Same G H) (rx : RBq κ H G x dx) (ry : RBq κ H G y dy) (q : Q (.bl z) H) : rLtD κ.K x y H Q := by
  unfold dLt at e
  split at e
  · rename_i h
    cases e
    exact ⟨_, _, rx.dp s h.1, ry.dp s h.2.1, h.2.2.1, hn, h.2.2.2, q⟩
  · cases e
theorem s_ltA {κ : Kx} : OpB κ (rLtA κ) cLtA := fun x y dx dy z H G Q e s rx ry q => by
  cases dx <;> cases dy <;> try (cases e; done)
  · rename_i i j
    exact .inl (s_cm x y (.int i) (.int j) z H G Q e s rx ry q)
  · rename_i i j
    exact .inl (s_cm x y (.str i) (.str j) z H G Q e s rx ry q)
  · exact .inr (dLt_of (by simp only [D.toP]; exact fun z => nomatch z) e s rx ry q)
  · exact .inr (dLt_of (by simp only [D.toP]; exact fun z => nomatch z) e s rx ry q)
/-! ### in, over data -/
def inD (x y : D) : Option Bool := match y with
  | .lst l => if x.okE = true ∧ (D.lst l).okE = true then some ((toPA l).any fun z => PyData.eqv z x.toP) else none
  | _ => none
/-- the one text within the other -/
def subT (v w : List Nat) : Bool := !(Builtin.Str.occurrences (S w) (S v) 0 (S w).length 1).isEmpty
def inT (x y : D) : Option Bool := match x, y with
  | .str v, .str w => some (subT v w)
  | _, _ => none
def cInA : D → D → Option Bool := fun x y => match cIn x y with
  | some b => some b
  | none => match inD x y with
    | some b => some b
    | none => inT x y
def cNinA : D → D → Option Bool := fun x y => match cInA x y with
  | some b => some (!b)
  | none => none
theorem units65 {k : Nat} {A : Around} (r : Room k A) : A.units + 65 < cLine := by have := r.un; omega
def rInT (neg : Bool) : R2 := fun x y H Q => ∃ i j, x = .str i ∧ y = .str j ∧ Q (.bl (if neg then !(!(Builtin.Str.occurrences j i 0 j.length 1).isEmpty) else !(Builtin.Str.occurrences j i 0 j.length 1).isEmpty)) H
def rInX (κ : Kx) : R2 := fun x y H Q => (rInA κ false x y H Q ∨ rInD κ.K x y H Q) ∨ rInT false x y H Q
def rNinX (κ : Kx) : R2 := fun x y H Q => (rInA κ true x y H Q ∨ rNotInD κ.K x y H Q) ∨ rInT true x y H Q
theorem inT_of {κ : Kx} {x y : V} {dx dy : D} {z : Bool} {H G : Hp} (e : inT dx dy = some z) (rx : RBq κ H G x dx) (ry : RBq κ H G y dy) : ∃ i j, x = .str i ∧ y = .str j ∧ z = !(Builtin.Str.occurrences j i 0 j.length 1).isEmpty := by
  cases dx <;> cases dy <;> try (cases e; done)
  rename_i v w
  cases e
  exact ⟨S v, S w, rx.str, ry.str, rfl⟩
theorem o_inA {X : Cx} {κ : Kx} (hK : X.K = κ.K) (hr : X.A.units + 65 < cLine) : OpR X (compareOp .In) (rInX κ) := by
  unfold rInX
  refine OpR.or (OpR.or (o_in hK) ?_) op_in_str
  rw [← hK]
  exact op_inD hr
theorem o_ninA {X : Cx} {κ : Kx} (hK : X.K = κ.K) (hr : X.A.units + 65 < cLine) : OpR X (compareOp .NotIn) (rNinX κ) := by
  unfold rNinX
  refine OpR.or (OpR.or (o_nin hK) ?_) op_notin_str
  rw [← hK]
  exact op_notInD hr
theorem inD_of {κ : Kx} {x y : V} {dx dy : D} {z : Bool} {H G : Hp} (e : inD dx dy = some z) (s : Same G H) (rx : RBq κ H G x dx) (ry : RBq κ H G y dy) : ∃ d ds, Dp κ.K H x d ∧ Dp κ.K H y (.list ds) ∧ SeqAt.shaped d = true ∧ SeqAt.shaped (.list ds) = true ∧ z = ds.any fun u => PyData.eqv u d := by
  cases dy with
  | lst l =>
    dsimp only [inD] at e
    by_cases o : dx.okE = true ∧ (D.lst l).okE = true
    · rw [if_pos o] at e
      cases e
      have hl := ry.dp s (okE_pl o.2)
      have hs := okE_shaped o.2
      simp only [D.toP] at hl hs
      exact ⟨_, _, rx.dp s (okE_pl o.1), hl, okE_shaped o.1, hs, rfl⟩
    · rw [if_neg o] at e; cases e
  | _ => cases e
theorem s_inA {κ : Kx} : OpB κ (rInX κ) cInA := fun x y dx dy z H G Q e s rx ry q => by
  unfold cInA at e
  cases h : cIn dx dy with
  | some b =>
    rw [h] at e
    cases e
    exact .inl (.inl (s_in x y dx dy _ H G Q h s rx ry q))
  | none =>
    rw [h] at e
    dsimp only at e
    cases h2 : inD dx dy with
    | some b =>
      rw [h2] at e
      cases e
      obtain ⟨d, ds, h1, h2, h3, h4, h5⟩ := inD_of h2 s rx ry
      exact .inl (.inr ⟨d, ds, h1, h2, h3, h4, h5 ▸ q⟩)
    | none =>
      rw [h2] at e
      obtain ⟨i, j, h1, h2, h3⟩ := inT_of e rx ry
      exact .inr ⟨i, j, h1, h2, h3 ▸ q⟩
theorem s_ninA {κ : Kx} : OpB κ (rNinX κ) cNinA := fun x y dx dy z H G Q e s rx ry q => by
  unfold cNinA at e
  cases h : cInA dx dy with
  | none => rw [h] at e; cases e
  | some b =>
    rw [h] at e
    cases e
    unfold cInA at h
    cases h2 : cIn dx dy with
    | some b2 =>
      rw [h2] at h
      cases h
      exact .inl (.inl (s_nin x y dx dy _ H G Q (by unfold cNin; rw [h2]) s rx ry q))
    | none =>
      rw [h2] at h
      dsimp only at h
      cases h3 : inD dx dy with
      | some b2 =>
        rw [h3] at h
        cases h
        obtain ⟨d, ds, h1, h2, h3, h4, h5⟩ := inD_of h3 s rx ry
        exact .inl (.inr ⟨d, ds, h1, h2, h3, h4, h5 ▸ q⟩)
      | none =>
        rw [h3] at h
        obtain ⟨i, j, h1, h2, h3⟩ := inT_of h rx ry
        exact .inr ⟨i, j, h1, h2, h3 ▸ q⟩
/-! ### reversed(range(..)) -/
section
variable {X : Cx} {κ : Kx} {W : WX} {tg a b e : Expr} {ma mb : Sm D} {p p2 pos pos2 : Pos}
def rngR (s : Int) (n : Nat) : List D := (List.range n).map fun (k : Nat) => D.int (s - (k : Int))
def fRr1 (m : Sm D) : Sm (List D) := bnd m fun d e => match d with
  | .int j => if j ≤ 1000000 ∧ -1000000 ≤ j then some (.ok (rngR (((j.toNat : Nat) : Int) - 1) j.toNat) e) else none
  | _ => none
def fRr2 (ma mb : Sm D) : Sm (List D) := bnd ma fun d => bnd mb fun f e => match d, f with
  | .int i, .int j => if (j ≤ 1000000 ∧ -1000000 ≤ j) ∧ i ≤ 1000000 ∧ -1000000 ≤ i then some (.ok (rngR (i + (((j - i).toNat : Nat) : Int) - 1) (j - i).toNat) e) else none
  | _, _ => none
end
/-! ### int(..) -/
def opInt : List D → Option Rs
  | [.int i] => some (.sh (.int i))
  | [.bl b] => some (.sh (.int (if b then 1 else 0)))
  | [.str w] => if w.length ≤ 640 then match PySem.intText? (S w) with
    | some n => some (.sh (.int n))
    | none => none
    else none
  | _ => none
def rIntA : List V → Hp → VK → Prop := fun xs H Q => ((∃ i, xs = [.int i] ∧ Q (.int i) H) ∨ ∃ k, xs = [.bl k] ∧ Q (.int (if k then 1 else 0)) H) ∨ ∃ a n, xs = [.str a] ∧ PySem.intText? a = some n ∧ a.length ≤ 640 ∧ Q (.int n) H
theorem call_intA {X : Cx} : CallR X (.type "int") rIntA := fun pins s σ H xs us Q I r h => by
  rcases h with h | h
  · exact call_int1 pins s σ H xs us Q I r h
  · exact call_int_str pins s σ H xs us Q I r h
theorem s_int {κ : Kx} : ClV κ [true] rIntA opInt := fun W σ vs ds z H G env Q e r rx q => by
  match ds, rx with
  | [d], rx =>
    obtain ⟨v, rfl, rv⟩ := rx.one
    cases d <;> try (cases e; done)
    · cases e
      exact .inl (.inr ⟨_, by rw [rv.bl], post_sh r (.int _) q⟩)
    · cases e
      exact .inl (.inl ⟨_, by rw [rv.int], post_sh r (.int _) q⟩)
    · rename_i w
      dsimp only [opInt] at e
      by_cases hl : w.length ≤ 640
      · rw [if_pos hl] at e
        cases hn : PySem.intText? (S w) with
        | none => rw [hn] at e; cases e
        | some n =>
          rw [hn] at e
          cases e
          exact .inr ⟨S w, n, by rw [rv.str], hn, by rw [S_len]; exact hl, post_sh r (.int _) q⟩
      · rw [if_neg hl] at e; cases e
  | [], rx => cases e
  | x :: y :: t, rx => cases x <;> cases e
/-! ### a, b = x, y -/
def sPar (i j : Nat) (m : Sm (List D)) : Ss := sbnd m fun ds e => match ds with
  | [x, y] => if i < e.length ∧ j < e.length then some (.nx ((e.set i (.sh x)).set j (.sh y))) else none
  | _ => none
section
variable {X : Cx} {κ : Kx} {W : WX} {m : Sm (List D)}
end
/-! ### what is walked, of any kind -/
theorem PI.or {X : Cx} {tg e : Expr} {w w' : TI} (h : PI X tg e w) (h' : PI X tg e w') : PI X tg e (fun σ H R => w σ H R ∨ w' σ H R) :=
  ⟨fun pins s σ H R I q => q.elim (h.run pins s σ H R I) (h'.run pins s σ H R I)⟩
theorem PI.imp {X : Cx} {tg e : Expr} {w w' : TI} (h : PI X tg e w) (k : ∀ σ H R, w' σ H R → w σ H R) : PI X tg e w' := ⟨fun pins s σ H R I q => h.run pins s σ H R I (k σ H R q)⟩
def itD : D → Option (List D)
  | .lst l => some l
  | .tup l => some l
  | .str w => some (w.map fun c => .str [c])
  | .scr l => some (l.map D.int)
  | _ => none
def fItA (m : Sm D) : Sm (List D) := bnd m fun d e => match itD d with
  | some l => some (.ok l e)
  | none => none
def eItA (i : Nat) : Sm (List D) := fun env => match env[i]? with
  | some (.sh d) => match itD d with
    | some l => some (.ok l env)
    | none => none
  | some (.lk l) => some (.ok l env)
  | some (.bo l) => some (.ok l env)
  | _ => none
section
variable {X : Cx} {κ : Kx} {W : WX} {e tg : Expr} {m : Sm D} {pos : Pos}
theorem sc_yields {σ : L2.St} {N : Addr → Prop} {H : Hp} {G : Gh} {env : En} {a : Addr} {ns : List Int} (h : SqL κ.K G a (ns.map V.int)) : RI κ σ N H G env (Itl κ.K a) (ns.map D.int) := by
  refine ⟨fun _ => False, fun _ z => z.elim, fun H' G' _ sg sh i => ?_⟩
  have hl : SqL κ.K H' a (ns.map V.int) := same_l sh (same_l (gr sg) h)
  refine ⟨fun d hd => ?_, fun hi => ⟨_, hl, by rw [List.length_map]; simpa using hi⟩⟩
  rw [List.getElem?_map] at hd
  cases hw : ns[i]? with
  | none => rw [hw] at hd; cases hd
  | some n =>
    rw [hw] at hd
    cases hd
    have hx : (ns.map V.int)[i]? = some (V.int n) := by rw [List.getElem?_map, hw]; rfl
    exact ⟨⟨_, _, hl, hx⟩, fun y H2 ⟨e2, hy⟩ => .inl ⟨e2, by
      have := hy _ hl
      rw [hx] at this
      cases this
      exact .int n⟩⟩
theorem i_scr (hK : X.K = κ.K) (h : PE X e (tX κ W (RP κ) m)) : PI X tg e (tX κ W (RI κ) (bnd m fun d e => match d with
    | .scr l => some (.ok (l.map D.int) e)
    | _ => none)) := ⟨fun pins s σ H R I ⟨G, env, r, q⟩ => (pi_list h).run pins s σ H R I (bind_post r q fun d e1 v H1 G1 em r1 rv s1 f1 q1 => by
  cases d with
  | scr l =>
    cases rv with
    | scr h3 =>
      refine ⟨_, rfl, ⟨l.map V.int, ?_⟩, ?_⟩
      · rw [hK]; exact same_l r1.sub h3
      · rw [hK]; exact q1 _ H1 G1 r1 (sc_yields h3) (Grw.refl _) Fr.refl
  | _ => exact q1.elim)⟩
theorem i_any (hK : X.K = κ.K) (h : PE X e (tX κ W (RP κ) m)) : PI X tg e (tX κ W (RI κ) (fItA m)) :=
  PI.imp (PI.or (PI.or (i_list (l_of h)) (i_tup h)) (PI.or (i_str (v_bo h)) (i_scr hK h))) fun σ H R ⟨G, env, r, q⟩ => by
    unfold fItA bnd at q
    cases z : m env with
    | none => rw [z] at q; exact q.elim
    | some o => cases o with
      | ex x e1 =>
        rw [z] at q
        refine .inl (.inl ⟨G, env, r, ?_⟩)
        unfold fIt bnd
        rw [z]
        exact q
      | ok d e1 =>
        rw [z] at q
        cases d with
        | lst l =>
          refine .inl (.inl ⟨G, env, r, ?_⟩)
          unfold fIt bnd
          rw [z]
          exact q
        | tup l =>
          refine .inl (.inr ⟨G, env, r, ?_⟩)
          unfold fTp bnd
          rw [z]
          exact q
        | str l =>
          refine .inr (.inl ⟨G, env, r, ?_⟩)
          unfold fSg bnd
          rw [z]
          exact q
        | scr l =>
          refine .inr (.inr ⟨G, env, r, ?_⟩)
          unfold bnd
          rw [z]
          exact q
        | _ => exact q.elim
theorem i_anyN {i : Nat} {x : Str} (hK : X.K = κ.K) (h : PE X (.Name x pos) (tVar i)) : PI X tg (.Name x pos) (tX κ W (RI κ) (eItA i)) :=
  PI.imp (PI.or (i_list (l_name h)) (i_any hK (v_var h))) fun σ H R ⟨G, env, r, q⟩ => by
    unfold eItA at q
    cases z : env[i]? with
    | none => rw [z] at q; exact q.elim
    | some s =>
      rw [z] at q
      cases s with
      | un => exact q.elim
      | ow l => exact q.elim
      | io l => exact q.elim
      | tr l => exact q.elim
      | lk l =>
        refine .inl ⟨G, env, r, ?_⟩
        unfold eIt
        rw [z]
        exact q
      | bo l =>
        refine .inl ⟨G, env, r, ?_⟩
        unfold eIt
        rw [z]
        exact q
      | sh d =>
        refine .inr ⟨G, env, r, ?_⟩
        unfold fItA bnd eV
        rw [z]
        exact q
end
end Vs


set_option Elab.async false
set_option linter.all false
set_option maxRecDepth 100000
set_option maxHeartbeats 2000000
/-! Vs5: classes; things handed in to be changed. -/
namespace Vs
open PySem L2
/-! ### fields -/
/-- where a field stands, by the class's number -/
structure FldOk (κ : Kx) (f : Str) (tab : Nat → Option Nat) : Prop where
  ok : ∀ c k, tab c = some k → L2.Cls κ.K (κ.cl c) ∧ L2.NoAttr κ.K (κ.cl c) f ∧ (κ.fl c)[k]? = some f ∧ (κ.fl c).Nodup ∧ (κ.fl c).length < 1000
theorem lookup_at : ∀ {ys : List (Str × V)} {L : List Str} {n k : Nat} {f : Str} {v : V}, ys.map Prod.fst = L.take n → L.Nodup → L[k]? = some f → (ys.map Prod.snd)[k]? = some v → ys.lookup f = some v
  | [], L, n, k, f, v, _, _, _, h => by simp at h
  | (g, x) :: ys, [], n, k, f, v, e, _, _, _ => by simp at e
  | (g, x) :: ys, h :: L, 0, k, f, v, e, _, _, _ => by simp at e
  | (g, x) :: ys, h :: L, n + 1, 0, f, v, e, _, hk, hv => by
    simp only [List.map_cons, List.take_succ_cons, List.cons.injEq] at e
    simp only [List.getElem?_cons_zero, Option.some.injEq] at hk
    simp only [List.map_cons, List.getElem?_cons_zero, Option.some.injEq] at hv
    have e1 : g = f := e.1.trans hk
    simp only [List.lookup, e1, beq_self_eq_true, hv]
  | (g, x) :: ys, h :: L, n + 1, k + 1, f, v, e, nd, hk, hv => by
    simp only [List.map_cons, List.take_succ_cons, List.cons.injEq] at e
    simp only [List.getElem?_cons_succ] at hk
    simp only [List.map_cons, List.getElem?_cons_succ] at hv
    have nd' := List.nodup_cons.mp nd
    have ne : ¬ f = g := fun z => nd'.1 (by rw [← e.1, ← z]; exact List.mem_of_getElem? hk)
    have hb : (f == g) = false := by simpa using ne
    simp only [List.lookup, hb]
    exact lookup_at e.2 nd'.2 hk hv
theorem lookup_out {ys : List (Str × V)} {L : List Str} {n : Nat} {m : Str} (e : ys.map Prod.fst = L.take n) (h : m ∉ L) : ys.lookup m = none := by
  cases q : ys.lookup m with
  | none => rfl
  | some v =>
    exfalso
    refine h (List.mem_of_mem_take (i := n) ?_)
    rw [← e]
    clear e h
    induction ys with
    | nil => simp at q
    | cons y ys ih =>
      obtain ⟨g, x⟩ := y
      simp only [List.lookup] at q
      by_cases z : (m == g) = true
      · have z' : m = g := by simpa using z
        subst z'
        exact List.mem_cons_self
      · rw [Bool.not_eq_true] at z
        rw [z] at q
        exact List.mem_cons_of_mem _ (ih q)
/-- e.f of what all may hold -/
def fFld (tab : Nat → Option Nat) (m : Sm D) : Sm D := bnd m fun d e => match d with
  | .ob c ds => match tab c with
    | some k => match ds[k]? with
      | some x => some (.ok x e)
      | none => none
    | none => none
  | _ => none
section
variable {X : Cx} {κ : Kx} {W : WX} {e : Expr} {m : Sm D} {f : Str} {pos : Pos} {tab : Nat → Option Nat}
theorem v_fld (hf : FldOk κ f tab) (hK : X.K = κ.K) (he : PE X e (tX κ W (RP κ) m)) (hb : attributeBase e f X.env (eval e X.env) = eval e X.env := by rfl) : PE X (.Attribute e f pos) (tX κ W (RP κ) (fFld tab m)) :=
  PE.imp (pe_fld he hb) fun σ H Q ⟨G, env, r, q⟩ => bind_post r q fun d e1 x H1 G1 _ r1 rx s1 f1 q1 => by
    cases d with
    | ob c ds =>
      dsimp only at q1
      cases w : tab c with
      | none => rw [w] at q1; exact q1.elim
      | some k =>
        rw [w] at q1
        dsimp only at q1
        cases y : ds[k]? with
        | none => rw [y] at q1; exact q1.elim
        | some z =>
          rw [y] at q1
          obtain ⟨h1, h2, h3, h4, _⟩ := hf.ok c k w
          cases rx with
          | ob g1 g2 g3 =>
            obtain ⟨v, hv, rv⟩ := g3.getD y
            rw [hK]
            exact ⟨_, _, _, _, v, rfl, r1.sub _ _ g1, h1, h2, lookup_at g2 h4 h3 hv, q1 v H1 G1 r1 rv (Grw.refl _) Fr.refl⟩
    | _ => exact q1.elim
/-- an own object at slot i -/
def obAt (e : En) (i : Nat) : Option (Nat × List Fd) := match e[i]? with
  | some (.io (.ob c fs)) => some (c, fs)
  | some (.tr (.ob c fs)) => some (c, fs)
  | _ => none
theorem obAt_of {e : En} {i c : Nat} {fs : List Fd} (h : obAt e i = some (c, fs)) : ∃ s, e[i]? = some s ∧ getO s = some (.ob c fs) := by
  unfold obAt at h
  split at h
  · rename_i c' fs' q; cases h; exact ⟨_, q, rfl⟩
  · rename_i c' fs' q; cases h; exact ⟨_, q, rfl⟩
  · cases h
def eFd (i : Nat) (tab : Nat → Option Nat) (e : En) : Option Fd := match obAt e i with
  | some (c, fs) => match tab c with
    | some k => fs[k]?
    | none => none
  | none => none
/-- self.f, given away, looked at -/
def eFV (i : Nat) (tab : Nat → Option Nat) : Sm D := fun e => match eFd i tab e with
  | some (.sh d) => some (.ok d e)
  | _ => none
def eFB (i : Nat) (tab : Nat → Option Nat) : Sm D := fun e => match eFd i tab e with
  | some f => some (.ok f.d e)
  | none => none
theorem RFs.at {H G : Hp} : ∀ {vs : List V} {fs : List Fd} {F : List Addr}, RFs κ H G vs fs F → ∀ {k : Nat} {x : Fd}, fs[k]? = some x → ∃ v, vs[k]? = some v ∧ ((∃ d, x = .sh d ∧ Rp κ G v d) ∨ ∃ a xs l, x = .ow l ∧ v = .ref a ∧ H a = some (.lst xs) ∧ G a = none ∧ RpA κ G xs l ∧ a ∈ F)
  | _, _, _, .nil, k, x, h => by simp at h
  | _, _, _, .sh r t, 0, x, h => by
    simp only [List.getElem?_cons_zero, Option.some.injEq] at h
    subst h
    exact ⟨_, rfl, .inl ⟨_, rfl, r⟩⟩
  | _, _, _, .ow h1 h2 h3 h4 t, 0, x, h => by
    simp only [List.getElem?_cons_zero, Option.some.injEq] at h
    subst h
    exact ⟨_, rfl, .inr ⟨_, _, _, rfl, rfl, h1, h2, h3, List.mem_cons_self⟩⟩
  | _, _, _, .sh r t, k + 1, x, h => by
    obtain ⟨v, h1, h2⟩ := RFs.at t (by simpa using h)
    exact ⟨v, by simpa using h1, h2⟩
  | _, _, _, .ow g1 g2 g3 g4 t, k + 1, x, h => by
    obtain ⟨v, h1, h2⟩ := RFs.at t (by simpa using h)
    refine ⟨v, by simpa using h1, ?_⟩
    rcases h2 with h2 | ⟨a, xs, l, h3, h4, h5, h6, h7, h8⟩
    · exact .inl h2
    · exact .inr ⟨a, xs, l, h3, h4, h5, h6, h7, List.mem_cons_of_mem _ h8⟩
theorem RO.ob_inv {H G : Hp} {v : V} {c : Nat} {fs : List Fd} {F : List Addr} (r : RO κ H G v (.ob c fs) F) : ∃ a dx ys F', v = .ref a ∧ F = a :: F' ∧ H a = some (.ins (κ.cl c) dx ys) ∧ G a = none ∧ ys.map Prod.fst = (κ.fl c).take fs.length ∧ RFs κ H G (ys.map Prod.snd) fs F' ∧ a ∉ F' := by
  cases r with
  | ob h1 h2 h3 h4 h5 => exact ⟨_, _, _, _, rfl, rfl, h1, h2, h3, h4, h5⟩
/-- what stands at an own object's slot -/
theorem ob_at {σ : L2.St} {H : Hp} {G : Gh} {env : En} {i c : Nat} {fs : List Fd} (r : Rep κ H G σ env) (h : obAt env i = some (c, fs)) : ∃ s a dx ys F', env[i]? = some s ∧ getO s = some (.ob c fs) ∧ σ[i]? = some (some (.ref a)) ∧ G.fp i = a :: F' ∧ H a = some (.ins (κ.cl c) dx ys) ∧ G.g a = none ∧ ys.map Prod.fst = (κ.fl c).take fs.length ∧ RFs κ H G (ys.map Prod.snd) fs F' ∧ a ∉ F' := by
  obtain ⟨s, e, g⟩ := obAt_of h
  obtain ⟨v, h1, ro⟩ := (r.slot i s e).th (getO_th g).1
  obtain ⟨a, dx, ys, F', rfl, h2, h3, h4, h5, h6, h7⟩ := ro.ob_inv
  exact ⟨s, a, dx, ys, F', e, g, h1, h2, h3, h4, h5, h6, h7⟩
theorem eFd_of {i : Nat} {e : En} {x : Fd} (h : eFd i tab e = some x) : ∃ c fs k, obAt e i = some (c, fs) ∧ tab c = some k ∧ fs[k]? = some x := by
  unfold eFd at h
  split at h
  · rename_i c fs q
    split at h
    · rename_i k w; exact ⟨c, fs, k, q, w, h⟩
    · cases h
  · cases h
theorem fld_tr (hf : FldOk κ f tab) (hK : X.K = κ.K) {i : Nat} {x : Fd} {σ : L2.St} {H : Hp} {G : Gh} {env : En} {Q : VK} (r : Rep κ H G σ env) (h : eFd i tab env = some x)
    (k : ∀ v, ((∃ d, x = .sh d ∧ Rp κ G v d) ∨ ∃ a xs l, x = .ow l ∧ v = .ref a ∧ H a = some (.lst xs) ∧ G.g a = none ∧ RpA κ G xs l ∧ a ∈ G.fp i) → Q v H) : tFld X.K (tVar i) f σ H Q := by
  obtain ⟨c, fs, n, h1, h2, h3⟩ := eFd_of h
  obtain ⟨s, a, dx, ys, F', e, g, h4, h5, h6, h7, h8, h9, h10⟩ := ob_at r h1
  obtain ⟨v, hv, rv⟩ := h9.at h3
  obtain ⟨g1, g2, g3, g4, _⟩ := hf.ok c n h2
  refine ⟨_, h4, a, _, dx, ys, v, rfl, h6, by rw [hK]; exact g1, by rw [hK]; exact g2, lookup_at h8 g4 g3 hv, k v ?_⟩
  rcases rv with rv | ⟨b, xs, l, q1, q2, q3, q4, q5, q6⟩
  · exact .inl rv
  · exact .inr ⟨b, xs, l, q1, q2, q3, q4, q5, by rw [h5]; exact List.mem_cons_of_mem _ q6⟩
theorem v_fV {i : Nat} {x : Str} {np : Pos} (hf : FldOk κ f tab) (hK : X.K = κ.K) (he : PE X (.Name x np) (tVar i)) (hb : attributeBase (.Name x np) f X.env (eval (.Name x np) X.env) = eval (.Name x np) X.env := by rfl) : PE X (.Attribute (.Name x np) f pos) (tX κ W (RP κ) (eFV i tab)) :=
  PE.imp (pe_fld he hb) fun σ H Q ⟨G, env, r, q⟩ => by
    unfold eFV at q
    split at q
    · rename_i d h
      exact fld_tr hf hK r h fun v rv => by
        rcases rv with ⟨d', e, rp⟩ | ⟨a, xs, l, e, _⟩
        · cases e; exact q v H G r rp (Grw.refl _) Fr.refl
        · cases e
    · exact q.elim
theorem v_fB {i : Nat} {x : Str} {np : Pos} (hf : FldOk κ f tab) (hK : X.K = κ.K) (he : PE X (.Name x np) (tVar i)) (hb : attributeBase (.Name x np) f X.env (eval (.Name x np) X.env) = eval (.Name x np) X.env := by rfl) : PE X (.Attribute (.Name x np) f pos) (tX κ W (RB κ) (eFB i tab)) :=
  PE.imp (pe_fld he hb) fun σ H Q ⟨G, env, r, q⟩ => by
    unfold eFB at q
    split at q
    · rename_i d h
      exact fld_tr hf hK r h fun v rv => by
        rcases rv with ⟨d', e, rp⟩ | ⟨a, xs, l, e, e2, e3, e4, e5, e6⟩
        · cases e; exact q v H G r (.inl rp) (Grw.refl _) Fr.refl
        · cases e; exact q v H G r (.inr ⟨a, xs, l, rfl, e2, e3, e5⟩) (Grw.refl _) Fr.refl
    · exact q.elim
end
/-! ### a field stored -/
theorem putF_names {f : Str} {v : V} : ∀ {ys : List (Str × V)} {L : List Str} {n k : Nat}, ys.map Prod.fst = L.take n → n ≤ L.length → L.Nodup → L[k]? = some f → k ≤ n →
    (putF f v ys).map Prod.fst = L.take (if k < n then n else n + 1) ∧ (putF f v ys).map Prod.snd = if k < n then (ys.map Prod.snd).set k v else ys.map Prod.snd ++ [v]
  | [], L, 0, k, e, _, _, hk, hn => by
    obtain rfl : k = 0 := by omega
    cases L with
    | nil => simp at hk
    | cons h L =>
      simp only [List.getElem?_cons_zero, Option.some.injEq] at hk
      subst hk
      simp [putF]
  | [], L, n + 1, k, e, hl, _, hk, hn => by
    cases L with
    | nil => simp at hl
    | cons h L => simp at e
  | (g, x) :: ys, L, 0, k, e, _, _, _, _ => by simp at e
  | (g, x) :: ys, [], n + 1, k, e, _, _, _, _ => by simp at e
  | (g, x) :: ys, h :: L, n + 1, 0, e, hl, nd, hk, hn => by
    simp only [List.map_cons, List.take_succ_cons, List.cons.injEq] at e
    simp only [List.getElem?_cons_zero, Option.some.injEq] at hk
    have e1 : g = f := e.1.trans hk
    simp only [putF, e1, if_true, List.map_cons, Nat.zero_lt_succ, List.set_cons_zero, List.take_succ_cons, e.2]
    exact ⟨by rw [← hk], trivial⟩
  | (g, x) :: ys, h :: L, n + 1, k + 1, e, hl, nd, hk, hn => by
    simp only [List.map_cons, List.take_succ_cons, List.cons.injEq] at e
    simp only [List.getElem?_cons_succ] at hk
    have nd' := List.nodup_cons.mp nd
    have ne : ¬ g = f := fun z => nd'.1 (by rw [← e.1, z]; exact List.mem_of_getElem? hk)
    obtain ⟨i1, i2⟩ := putF_names (v := v) e.2 (by simpa using hl) nd'.2 hk (by omega)
    have c : (k + 1 < n + 1) = (k < n) := by rw [Nat.add_lt_add_iff_right]
    simp only [putF, if_neg ne, List.map_cons, i1, i2, c]
    by_cases w : k < n
    · simp only [if_pos w, List.take_succ_cons, List.set_cons_succ, e.1]; exact ⟨trivial, trivial⟩
    · simp only [if_neg w, List.take_succ_cons, List.cons_append, e.1]; exact ⟨trivial, trivial⟩
section
variable {κ : Kx} {H G : Hp}
theorem RFs.len : ∀ {vs : List V} {fs : List Fd} {F : List Addr}, RFs κ H G vs fs F → vs.length = fs.length
  | _, _, _, .nil => rfl
  | _, _, _, .sh _ t => by simp [RFs.len t]
  | _, _, _, .ow _ _ _ _ t => by simp [RFs.len t]
/-- a field replaced by a shared value, by a new own list -/
theorem RFs.setS {v : V} {d : D} (r : Rp κ G v d) : ∀ {vs : List V} {fs : List Fd} {F : List Addr} (k : Nat), RFs κ H G vs fs F → ∃ F', RFs κ H G (vs.set k v) (fs.set k (.sh d)) F' ∧ ∀ a, a ∈ F' → a ∈ F
  | _, _, _, k, .nil => ⟨[], by simpa using RFs.nil, fun a m => m⟩
  | _, _, _, 0, .sh _ t => ⟨_, .sh r t, fun a m => m⟩
  | _, _, _, 0, .ow _ _ _ _ t => ⟨_, .sh r t, fun a m => List.mem_cons_of_mem _ m⟩
  | _, _, _, k + 1, .sh q t => by
    obtain ⟨F', h1, h2⟩ := RFs.setS r k t
    exact ⟨F', .sh q h1, h2⟩
  | _, _, _, k + 1, .ow q1 q2 q3 q4 t => by
    obtain ⟨F', h1, h2⟩ := RFs.setS r k t
    exact ⟨_, .ow q1 q2 q3 (fun m => q4 (h2 _ m)) h1, fun a m => by
      rcases List.mem_cons.mp m with e | m
      · rw [e]; exact List.mem_cons_self
      · exact List.mem_cons_of_mem _ (h2 a m)⟩
theorem RFs.setL {b : Addr} {xs : List V} {l : List D} (hb : H b = some (.lst xs)) (gb : G b = none) (r : RpA κ G xs l) : ∀ {vs : List V} {fs : List Fd} {F : List Addr} (k : Nat), b ∉ F → k < fs.length → RFs κ H G vs fs F → ∃ F', RFs κ H G (vs.set k (.ref b)) (fs.set k (.ow l)) F' ∧ ∀ a, a ∈ F' → a ∈ F ∨ a = b
  | _, _, _, k, _, hk, .nil => by simp at hk
  | _, _, _, 0, nb, _, .sh _ t => ⟨_, .ow hb gb r nb t, fun a m => by
      rcases List.mem_cons.mp m with e | m
      · exact .inr e
      · exact .inl m⟩
  | _, _, _, 0, nb, _, .ow _ _ _ _ t => ⟨_, .ow hb gb r (fun m => nb (List.mem_cons_of_mem _ m)) t, fun a m => by
      rcases List.mem_cons.mp m with e | m
      · exact .inr e
      · exact .inl (List.mem_cons_of_mem _ m)⟩
  | _, _, _, k + 1, nb, hk, .sh q t => by
    obtain ⟨F', h1, h2⟩ := RFs.setL hb gb r k nb (by simpa using hk) t
    exact ⟨F', .sh q h1, h2⟩
  | _, _, _, k + 1, nb, hk, .ow q1 q2 q3 q4 t => by
    obtain ⟨F', h1, h2⟩ := RFs.setL hb gb r k (fun m => nb (List.mem_cons_of_mem _ m)) (by simpa using hk) t
    refine ⟨_, .ow q1 q2 q3 (fun m => ?_) h1, fun a m => ?_⟩
    · rcases h2 _ m with m | e
      · exact q4 m
      · exact nb (by rw [← e]; exact List.mem_cons_self)
    · rcases List.mem_cons.mp m with e | m
      · rw [e]; exact .inl List.mem_cons_self
      · rcases h2 a m with m | e
        · exact .inl (List.mem_cons_of_mem _ m)
        · exact .inr e
theorem RFs.addS {v : V} {d : D} (r : Rp κ G v d) : ∀ {vs : List V} {fs : List Fd} {F : List Addr}, RFs κ H G vs fs F → RFs κ H G (vs ++ [v]) (fs ++ [.sh d]) F
  | _, _, _, .nil => .sh r .nil
  | _, _, _, .sh q t => .sh q (RFs.addS r t)
  | _, _, _, .ow q1 q2 q3 q4 t => .ow q1 q2 q3 q4 (RFs.addS r t)
theorem RFs.addL {b : Addr} {xs : List V} {l : List D} (hb : H b = some (.lst xs)) (gb : G b = none) (r : RpA κ G xs l) : ∀ {vs : List V} {fs : List Fd} {F : List Addr}, b ∉ F → RFs κ H G vs fs F → ∃ F', RFs κ H G (vs ++ [.ref b]) (fs ++ [.ow l]) F' ∧ ∀ a, a ∈ F' → a ∈ F ∨ a = b
  | _, _, _, nb, .nil => ⟨[b], .ow hb gb r nb .nil, fun a m => .inr (List.mem_singleton.mp m)⟩
  | _, _, _, nb, .sh q t => by
    obtain ⟨F', h1, h2⟩ := RFs.addL hb gb r nb t
    exact ⟨F', .sh q h1, h2⟩
  | _, _, _, nb, .ow q1 q2 q3 q4 t => by
    obtain ⟨F', h1, h2⟩ := RFs.addL hb gb r (fun m => nb (List.mem_cons_of_mem _ m)) t
    refine ⟨_, .ow q1 q2 q3 (fun m => ?_) h1, fun a m => ?_⟩
    · rcases h2 _ m with m | e
      · exact q4 m
      · exact nb (by rw [← e]; exact List.mem_cons_self)
    · rcases List.mem_cons.mp m with e | m
      · rw [e]; exact .inl List.mem_cons_self
      · rcases h2 a m with m | e
        · exact .inl (List.mem_cons_of_mem _ m)
        · exact .inr e
end
def Rs.fd : Rs → Option Fd
  | .sh d => some (.sh d)
  | .ow l => some (.ow l)
  | .tr _ => none
def setF (fs : List Fd) (k : Nat) (x : Fd) : List Fd := if k < fs.length then fs.set k x else fs ++ [x]
/-- self.f = value -/
def sFldS (i : Nat) (tab : Nat → Option Nat) (m : Sm Rs) : Ss := sbnd m fun r e => match obAt e i with
  | some (c, fs) => match tab c with
    | some k => if k ≤ fs.length then match r.fd with
      | some x => match e[i]? with
        | some s => some (.nx (e.set i (setO s (.ob c (setF fs k x)))))
        | none => none
      | none => none
      else none
    | none => none
  | none => none
section
variable {κ : Kx} {σ σ0 : L2.St} {H H1 H2 : Hp} {G G1 : Gh} {env e1 : En}
/-- the own thing at slot i changed, behind what was done before: what it takes in may be new since then -/
theorem chg_all (r1 : Rep κ H1 G1 σ e1) (f1 : Fr H G σ0 env H1 G1 σ e1) {i : Nat} {s s' : Sl} {o o' : O} {F : List Addr} {v : V} (e : e1[i]? = some s) (hm : s.mut = true) (t : s.th = some o) (t' : s'.th = some o') (hf : s'.fix = true → s'.was s) (hm' : s'.mut = true) (ea : σ[i]? = some (some v))
    (h : RO κ H2 G1 v o' F) (hk : ∀ a u, H1 a = some u → a ∉ G1.fp i → H2 a = some u) (hF : ∀ a, a ∈ F → a ∈ G1.fp i ∨ (Fre G1 e1 a ∧ Nw H G env a)) :
    ∃ G', Rep κ H2 G' σ (e1.set i s') ∧ Fr H G σ0 env H2 G' σ (e1.set i s') := by
  have hi : i < e1.length := (List.getElem?_eq_some_iff.mp e).1
  have me : ∀ a, a ∈ G1.fp i → Own G1 e1 i a := fun a m => ⟨s, o, e, t, m⟩
  have sub : Sub κ G1.g H2 := ⟨fun a u q => hk a u (r1.sub a u q) fun m => (by rw [(r1.own (me a m)).2] at q; cases q), r1.sub.n, tabs_of r1.sub.t fun a u q np => hk a u q fun m => np (r1.pl e m q)⟩
  have re := r1.re (s := s') (F := F) (H' := H2) (g' := G1.g) (x := some v) hi sub (Same.refl _) (RSl.of t' rfl h) (fun j u a w e2 m o' h => hk a o' h fun m' => w (r1.inj i j a u (me a m') e2 m)) (fun j a w ow => (r1.own ow).2) fun a m j u w e2 m2 => by
    rcases hF a m with q | q
    · exact w (r1.inj i j a u (me a q) e2 m2)
    · exact q.1 j u e2 m2
  rw [set_same ea] at re
  have mi : ∀ a, a ∈ G1.fp i → ∀ u, H a = some u → Mt G env a := fun a m u h => f1.mm a u h ⟨i, s, e, hm, m⟩
  refine ⟨_, re, fun a u h n => hk_trans (f1.hk a u h n) fun o' e => ⟨o', hk a o' e fun m => n (mi a m u h), fun _ => rfl⟩, f1.gk, f1.gn, fun a u h m => ?_, fun j u q e2 => ?_⟩
  · obtain ⟨j, u', e2, hm2, m⟩ := m
    have m : a ∈ (G1.put i F).fp j := m
    rcases set_look e2 with ⟨rfl, rfl⟩ | ⟨w, e3⟩
    · rw [put_at] at m
      rcases hF a m with q | q
      · exact mi a q u h
      · exact q.2 u h
    · rw [put_ne w] at m
      exact f1.mm a u h ⟨j, u', e3, hm2, m⟩
  · rcases set_look e2 with ⟨rfl, rfl⟩ | ⟨w, e3⟩
    · obtain ⟨s0, q1, q2, q3, q4⟩ := f1.lk j s (was_fix q (hf q)) e
      exact ⟨s0, q1, was_trans q (hf q) q2, q3, fun _ z => by rw [hm'] at z; cases z⟩
    · obtain ⟨s0, q1, q2, q3, q4⟩ := f1.lk j u q e3
      refine ⟨s0, q1, q2, q3, fun y1 y2 => ?_⟩
      show (G1.put i F).fp j = _
      rw [put_ne w]
      exact q4 y1 y2
/-- .. of a field -/
theorem fld_all {f : Str} {tab : Nat → Option Nat} (hf : FldOk κ f tab) (r1 : Rep κ H1 G1 σ e1) (f1 : Fr H G σ0 env H1 G1 σ e1) {i c k : Nat} {fs : List Fd} {y : Fd} {s : Sl} {v : V} {z : Rs} (h : obAt e1 i = some (c, fs)) (es : e1[i]? = some s) (w : tab c = some k) (hk : k ≤ fs.length) (hz : z.fd = some y) (rv : RV κ σ (Nw H G env) H1 G1 e1 v z) :
    ∃ a dx ys, σ[i]? = some (some (.ref a)) ∧ H1 a = some (.ins (κ.cl c) dx ys) ∧ ys.length < 1000 ∧ ∃ G', Rep κ (upd H1 a (.ins (κ.cl c) dx (putF f v ys))) G' σ (e1.set i (setO s (.ob c (setF fs k y)))) ∧ Fr H G σ0 env (upd H1 a (.ins (κ.cl c) dx (putF f v ys))) G' σ (e1.set i (setO s (.ob c (setF fs k y)))) := by
  obtain ⟨s', a, dx, ys, F', es', g, h4, h5, h6, h7, h8, h9, h10⟩ := ob_at r1 h
  rw [es] at es'
  cases es'
  obtain ⟨g1, g2, g3, g4, g5⟩ := hf.ok c k w
  have ln : ys.length = fs.length := by rw [← h9.len, List.length_map]
  have lL : fs.length ≤ (κ.fl c).length := by
    have := congrArg List.length h8
    rw [List.length_map, List.length_take] at this
    omega
  obtain ⟨n1, n2⟩ := putF_names (v := v) h8 lL g4 g3 hk
  have names : (putF f v ys).map Prod.fst = (κ.fl c).take (setF fs k y).length := by
    rw [n1]
    unfold setF
    by_cases hlt : k < fs.length
    · rw [if_pos hlt, if_pos hlt, List.length_set]
    · rw [if_neg hlt, if_neg hlt, List.length_append, List.length_singleton]
  have hk' : ∀ b u, b ≠ a → H1 b = some u → upd H1 a (.ins (κ.cl c) dx (putF f v ys)) b = some u := fun b u nb hu => by rw [upd_ne nb]; exact hu
  have carry : ∀ {vs : List V} {fs : List Fd} {F : List Addr}, a ∉ F → RFs κ H1 G1 vs fs F → RFs κ (upd H1 a (.ins (κ.cl c) dx (putF f v ys))) G1 vs fs F := fun {vs fs F} na t => t.grow (Same.refl _) (fun b u m hu => hk' b u (fun z => na (z ▸ m)) hu) fun b m => (t.own m).2
  have fields : ∃ F2, RFs κ (upd H1 a (.ins (κ.cl c) dx (putF f v ys))) G1 ((putF f v ys).map Prod.snd) (setF fs k y) F2 ∧ a ∉ F2 ∧ ∀ b, b ∈ F2 → b ∈ F' ∨ (Fre G1 e1 b ∧ Nw H G env b) := by
    rw [n2]
    cases z with
    | sh d =>
      cases hz
      unfold setF
      by_cases hlt : k < fs.length
      · rw [if_pos hlt, if_pos hlt]
        obtain ⟨F2, q1, q2⟩ := RFs.setS (κ := κ) (H := H1) (G := G1) (v := v) (d := d) rv k h9
        exact ⟨F2, carry (fun m => h10 (q2 _ m)) q1, fun m => h10 (q2 _ m), fun b m => .inl (q2 b m)⟩
      · rw [if_neg hlt, if_neg hlt]
        exact ⟨F', carry h10 (RFs.addS (κ := κ) (H := H1) (G := G1) (v := v) (d := d) rv h9), h10, fun b m => .inl m⟩
    | ow l =>
      cases hz
      obtain ⟨b, xs, rfl, b2, b3, b4, b5, b6⟩ := rv
      have nb : b ∉ F' := fun m => b5 i s es (by rw [h5]; exact List.mem_cons_of_mem _ m)
      have nba : b ≠ a := fun m => b5 i s es (by rw [h5, m]; exact List.mem_cons_self)
      unfold setF
      by_cases hlt : k < fs.length
      · rw [if_pos hlt, if_pos hlt]
        obtain ⟨F2, q1, q2⟩ := RFs.setL (κ := κ) (H := H1) (G := G1) b2 b3 b4 k nb hlt h9
        have na : a ∉ F2 := fun m => by
          rcases q2 _ m with m | e
          · exact h10 m
          · exact nba e.symm
        exact ⟨F2, carry na q1, na, fun c m => by
          rcases q2 c m with m | e
          · exact .inl m
          · rw [e]; exact .inr ⟨b5, b6⟩⟩
      · rw [if_neg hlt, if_neg hlt]
        obtain ⟨F2, q1, q2⟩ := RFs.addL (κ := κ) (H := H1) (G := G1) b2 b3 b4 nb h9
        have na : a ∉ F2 := fun m => by
          rcases q2 _ m with m | e
          · exact h10 m
          · exact nba e.symm
        exact ⟨F2, carry na q1, na, fun c m => by
          rcases q2 c m with m | e
          · exact .inl m
          · rw [e]; exact .inr ⟨b5, b6⟩⟩
    | tr o => cases hz
  obtain ⟨F2, t1, t2, t3⟩ := fields
  have ro : RO κ (upd H1 a (.ins (κ.cl c) dx (putF f v ys))) G1 (.ref a) (.ob c (setF fs k y)) (a :: F2) := .ob upd_same h7 names t1 t2
  exact ⟨a, dx, ys, h4, h6, by rw [ln]; omega, chg_all r1 f1 (s' := setO s (.ob c (setF fs k y))) es (getO_th g).2 (getO_th g).1 setO_th.1 (setO_was g) setO_th.2 h4 ro (fun b u hu m => hk' b u (fun w => m (by rw [h5, w]; exact List.mem_cons_self)) hu) fun b m => by
    rcases List.mem_cons.mp m with e | m
    · rw [e, h5]; exact .inl List.mem_cons_self
    · rcases t3 b m with m | q
      · rw [h5]; exact .inl (List.mem_cons_of_mem _ m)
      · exact .inr q⟩
end
section
variable {X : Cx} {κ : Kx} {W : WX} {e : Expr} {m : Sm D} {mr : Sm Rs} {f : Str} {pos apos np : Pos} {tab : Nat → Option Nat}
theorem s_fld {i : Nat} {x : Str} (hf : FldOk κ f tab) (hK : X.K = κ.K) (ho : PE X (.Name x np) (tVar i)) (hv : PE X e (tI κ W (RV κ) mr)) (hs : swapsWith e (some (.Attribute (.Name x np) f apos)) pos.line X.env = pure false := by rfl) :
    PS X (.Assign [.Attribute (.Name x np) f apos] e pos) (tS κ W (sFldS i tab mr)) := PS.imp (ps_fld ho hv hs) fun D σ H ⟨G, env, r, q⟩ => by
  refine ⟨G, env, r, ?_⟩
  unfold sFldS sbnd at q
  cases em : mr env with
  | none => rw [em] at q; exact q
  | some o => cases o with
    | ex x e1 =>
      rw [em] at q
      exact fun c d H' G' a b g => q c d σ H' G' a b g
    | ok z e1 =>
      rw [em] at q
      intro v H1 G1 r1 rv f1
      dsimp only at q
      cases h : obAt e1 i with
      | none => rw [h] at q; exact q.elim
      | some cf =>
        obtain ⟨c, fs⟩ := cf
        rw [h] at q
        dsimp only at q
        cases w : tab c with
        | none => rw [w] at q; exact q.elim
        | some k =>
          rw [w] at q
          dsimp only at q
          by_cases hk : k ≤ fs.length
          · rw [if_pos hk] at q
            cases hz : z.fd with
            | none => rw [hz] at q; exact q.elim
            | some y =>
              rw [hz] at q
              dsimp only at q
              cases es : e1[i]? with
              | none => rw [es] at q; exact q.elim
              | some s =>
                rw [es] at q
                obtain ⟨a, dx, ys, h1, h2, h3, G2, r2, f2⟩ := fld_all hf r1 f1 h es w hk hz rv
                obtain ⟨g1, g2, _⟩ := hf.ok c k w
                exact ⟨_, h1, a, _, dx, ys, rfl, h2, by rw [hK]; exact g1, by rw [hK]; exact g2, h3, q σ _ G2 r2 f2⟩
          · rw [if_neg hk] at q; exact q.elim
end
end Vs


set_option Elab.async false
set_option linter.all false
set_option maxRecDepth 100000
set_option maxHeartbeats 2000000
/-! Vs6: methods, makes, calls that change. -/
namespace Vs
open PySem L2 PyProof.Rows
/-! ### rules of the hand layer, with the wish at the slots -/
section
variable {X : Cx} {k : Nat} {fn C : Addr} {fd : FuncData} {ps : List Str} {sp : Sp} {E : L2.St → XK} {x m : Str} {p pos apos : Pos} {e o : Expr} {es : List Expr} {ta : TE} {t : TA}
/-- o.m(..), the class by the instance -/
def tMethV (X : Cx) (m : Str) (E : L2.St → XK) (ta : TE) (t : TA) : TE := fun σ H Q => ta σ H fun x H1 => ∃ (C g : Addr) (fd : FuncData) (ps : List Str) (k : Nat) (sp : Sp) (a dx : Addr) (fs : List (Str × V)), x = .ref a ∧ H1 a = some (.ins C dx fs) ∧ fs.lookup m = none ∧
  L2.Cls X.K C ∧ L2.Meth X.K C m g ∧ FnOk X.prog X.w X.K X.mg X.base (L2.CX X.prog X.w) k g fd ps sp ∧ Room k X.A ∧ Binds X.K fd ps [] ∧ t σ H1 fun vs H2 => sp (x :: vs) H2 Q (E σ)
theorem pe_methV {pl : Sem Bool} (hx : ∀ σ, PassesAt (L2.CX X.prog X.w) X σ (E σ)) (he : PE X o ta) (ha : PA X (e :: es) t)
    (hst : starEach (e :: es) X.env = (false, eval e X.env) :: starEach es X.env := by rfl) (hpl : (backTo pos (starEach es X.env)).any (·.1) = false := by rfl)
    (ht : eval (.Call (.Attribute o m apos) (e :: es) [] pos) X.env = (do
      let ov ← eval o X.env
      standAt apos.atName
      let (f, first) ← holding [ov] (getMethod ov m pl)
      callWith pos f first (backTo pos (starEach (e :: es) X.env)) (backToKw pos (keywordEach [] X.env))) := by rfl) :
    PE X (.Call (.Attribute o m apos) (e :: es) [] pos) (tMethV X m E ta t) := by
  refine ⟨fun pins s σ H Q I h => ?_⟩
  refine PySem.W.methodCall_KW (pl := pl) (thn (he.run pins s σ H _ I h) fun u s1 ⟨x, H1, I1, rx, C, g, fd, ps, k, sp, a, dx, fs, ex, ea, l, c, hm, F, hr, hb, q⟩ => ?_) ht
  subst ex
  obtain rfl : u = Value.ref a := rx
  refine getmeth_ok I1 ea c hm l ?_
  refine PySem.W.callWith_K (first := [.ref a]) (h₀ := X.base) I.ok.mod.kin hm.kp (thn (ha.run pos pins s1 σ H1 _ I1 q) fun us s2 ⟨vs, H2, I2, r, q2⟩ => ⟨I2.kIn, ?_⟩) hst hpl
  exact run_fnS (us := .ref a :: us) (vs := .ref a :: vs) F hr hb (hx σ) I2 (.cons rfl r) q2
theorem pe_methV0 {pl : Sem Bool} (hx : ∀ σ, PassesAt (L2.CX X.prog X.w) X σ (E σ)) (he : PE X o ta)
    (ht : eval (.Call (.Attribute o m apos) [] [] pos) X.env = (do
      let ov ← eval o X.env
      standAt apos.atName
      let (f, first) ← holding [ov] (getMethod ov m pl)
      callWith pos f first (backTo pos (starEach [] X.env)) (backToKw pos (keywordEach [] X.env))) := by rfl) :
    PE X (.Call (.Attribute o m apos) [] [] pos) (tMethV X m E ta tNil) := by
  refine ⟨fun pins s σ H Q I h => ?_⟩
  refine PySem.W.methodCall_KW (pl := pl) (thn (he.run pins s σ H _ I h) fun u s1 ⟨x, H1, I1, rx, C, g, fd, ps, k, sp, a, dx, fs, ex, ea, l, c, hm, F, hr, hb, q⟩ => ?_) ht
  subst ex
  obtain rfl : u = Value.ref a := rx
  refine getmeth_ok I1 ea c hm l ?_
  exact PySem.W.callWith_K0 (first := [.ref a]) I1.kIn hm.kp (run_fnS (us := [.ref a]) (vs := [.ref a]) F hr hb (hx σ) I1 (.cons rfl .nil) q)
/-- C(..) -/
def tMakeS (C : Addr) (sp : Sp) (E : L2.St → XK) (t : TA) : TE := fun σ H Q => t σ H fun vs H1 => ∀ x dx, H1 x = none → H1 dx = none → dx ≠ x →
  sp (.ref x :: vs) (upd (upd H1 dx (.own x)) x (.ins C dx [])) (fun v H2 => v = .non ∧ Q (.ref x) H2) (E σ)
theorem run_makeS {pins : List (Addr × Obj)} {σ : L2.St} {H : Hp} {s : Shared} {Q : VK} {us : List Value} {vs : List V} (M : Mk X.K C fn) (F : FnOk X.prog X.w X.K X.mg X.base (L2.CX X.prog X.w) k fn fd ps sp) (hr : Room (k + 1) X.A) (hb : Binds X.K fd ps [])
    (hx : PassesAt (L2.CX X.prog X.w) X σ (E σ)) (I : Inv X pins σ H s) (r : Vals vs us)
    (h : ∀ x dx, H x = none → H dx = none → dx ≠ x → sp (.ref x :: vs) (upd (upd H dx (.own x)) x (.ins C dx [])) (fun v H2 => v = .non ∧ Q (.ref x) H2) (E σ)) :
    wpAny (model X.prog X.w) X.A (call (.ref C) us) (EP X pins σ Q) X.xe s := by
  have hq := h (s.heap.objs.size + 1) s.heap.objs.size (I.hok.fresh (Nat.le_succ _)) (I.hok.fresh (Nat.le_refl _)) (Nat.ne_of_lt (Nat.lt_succ_self _))
  have I2 := Inv.made (C := C) I
  have r2 : Vals (V.ref (s.heap.objs.size + 1) :: vs) (Value.ref (s.heap.objs.size + 1) :: us) := .cons rfl r
  have hl : (Value.ref (s.heap.objs.size + 1) :: us).length = ps.length := by
    have e := r2.length
    rw [F.len _ _ _ _ hq] at e
    exact e.symm
  have b := hb _ (Value.ref (s.heap.objs.size + 1) :: us) I2.kIn (by rw [List.append_nil]; exact hl)
  rw [List.append_nil] at b
  refine wpAny_call (make_map (f := fn) I.kIn M.makes M.init (beq_iff_eq.mp M.fn) (codeAny_mono (F.run _ X.stack _ _ ⟨Value.ref (s.heap.objs.size + 1) :: us, []⟩ (Value.ref (s.heap.objs.size + 1) :: us) _ _ (E σ) (hr.make C us [])
    (I2.env0.make C us []) b r2 hq) fun r s' hq' => ?_))
  cases r with
  | error e => exact hx pins _ _ e s' I2 hq'
  | ok fl =>
    cases fl with
    | ret u =>
      obtain ⟨v, H', I3, rv, ev, q3⟩ := I2.after hq'
      subst ev
      exact ⟨rv, ⟨V.ref (s.heap.objs.size + 1), H', I3, rfl, q3⟩⟩
    | next => exact False.elim hq'
    | brk => exact False.elim hq'
    | cont => exact False.elim hq'
theorem pe_makeS (M : Mk X.K C fn) (F : FnOk X.prog X.w X.K X.mg X.base (L2.CX X.prog X.w) k fn fd ps sp) (hr : Room (k + 1) X.A) (hg : Gl X x) (hm : X.mg x = some (.ref C)) (hb : Binds X.K fd ps []) (hx : ∀ σ, PassesAt (L2.CX X.prog X.w) X σ (E σ))
    (ha : PA X (e :: es) t) (hdb : (x == ("__debug__" : Str)) = false := by decide) (he : starEach (e :: es) X.env = (false, eval e X.env) :: starEach es X.env := by rfl) (hpl : (backTo pos (starEach es X.env)).any (·.1) = false := by rfl) :
    PE X (.Call (.Name x p) (e :: es) [] pos) (tMakeS C sp E t) := by
  refine ⟨fun pins s σ H Q I h => ?_⟩
  refine wpAny_Call_Name_kw (ld_glob I hg hm ?_ hdb)
  refine PySem.W.callWith_K (h₀ := X.base) I.ok.mod.kin M.kp (thn (ha.run pos pins s σ H _ I h) fun us s1 ⟨vs, H1, I1, r, q⟩ => ⟨I1.kIn, ?_⟩) he hpl
  exact run_makeS M F hr hb (hx σ) I1 r q
theorem pe_makeS0 (M : Mk X.K C fn) (F : FnOk X.prog X.w X.K X.mg X.base (L2.CX X.prog X.w) k fn fd ps sp) (hr : Room (k + 1) X.A) (hg : Gl X x) (hm : X.mg x = some (.ref C)) (hb : Binds X.K fd ps []) (hx : ∀ σ, PassesAt (L2.CX X.prog X.w) X σ (E σ))
    (hdb : (x == ("__debug__" : Str)) = false := by decide) : PE X (.Call (.Name x p) [] [] pos) (tMakeS C sp E tNil) := by
  refine ⟨fun pins s σ H Q I h => ?_⟩
  refine wpAny_Call_Name_kw (ld_glob I hg hm ?_ hdb)
  exact PySem.W.callWith_K0 I.kIn M.kp (run_makeS (us := []) M F hr hb (hx σ) I .nil h)
/-- C.m(..), C a class, m a plain def of it -/
def tClsS (C : Addr) (sp : Sp) (E : L2.St → XK) (ta : TE) (t : TA) : TE := fun σ H Q => ta σ H fun x H1 => x = .ref C ∧ t σ H1 fun vs H2 => sp vs H2 Q (E σ)
theorem pe_clsS {pl : Sem Bool} {mc : Value} (he : PE X o ta) (rd : ClX.CRead X.K C mc) (c : PySem.W.findCls X.K (.ref C) mc m = some (.val (.ref fn))) (hk : PySem.W.keepIn X.K (.ref fn) = true) (F : FnOk X.prog X.w X.K X.mg X.base (L2.CX X.prog X.w) k fn fd ps sp) (hr : Room k X.A) (hb : Binds X.K fd ps []) (hx : ∀ σ, PassesAt (L2.CX X.prog X.w) X σ (E σ)) (ha : PA X (e :: es) t)
    (hst : starEach (e :: es) X.env = (false, eval e X.env) :: starEach es X.env := by rfl) (hpl : (backTo pos (starEach es X.env)).any (·.1) = false := by rfl)
    (ht : eval (.Call (.Attribute o m apos) (e :: es) [] pos) X.env = (do
      let ov ← eval o X.env
      standAt apos.atName
      let (f, first) ← holding [ov] (getMethod ov m pl)
      callWith pos f first (backTo pos (starEach (e :: es) X.env)) (backToKw pos (keywordEach [] X.env))) := by rfl) :
    PE X (.Call (.Attribute o m apos) (e :: es) [] pos) (tClsS C sp E ta t) := by
  refine ⟨fun pins s σ H Q I h => ?_⟩
  refine PySem.W.methodCall_KW (pl := pl) (thn (he.run pins s σ H _ I h) fun u s1 ⟨x, H1, I1, rx, ex, q⟩ => ?_) ht
  subst ex
  obtain rfl : u = Value.ref C := rx
  have kv : ClX.CVal X.K C mc m (.ref fn) (.ref fn) := ⟨c, rfl⟩
  refine PySem.W.method_cls I1.kIn rd.ga (ClX.getcval_ok I1 rd kv fun s2 I2 => ?_)
  refine PySem.W.callWith_K (first := []) (h₀ := X.base) I.ok.mod.kin hk (thn (ha.run pos pins s2 σ H1 _ I2 q) fun us s3 ⟨vs, H2, I3, r, q2⟩ => ⟨I3.kIn, ?_⟩) hst hpl
  exact run_fnS (us := us) (vs := vs) F hr hb (hx σ) I3 r q2
end
/-! ### methods -/
/-- a method of the class with number c that keeps its function -/
structure VMt (P : Program) (w : World) (κ : Kx) (mg : Str → Option Value) (base : Heap) (c : Nat) (m : Str) (k : Nat) (ms : List Bool) (g : FSem) : Prop where
  ex : ∃ (f : Addr) (fd : FuncData) (ps : List Str), L2.Cls κ.K (κ.cl c) ∧ L2.Meth κ.K (κ.cl c) m f ∧ m ∉ κ.fl c ∧ FnOk P w κ.K mg base (L2.CX P w) k f fd ps (spV κ (false :: ms) g) ∧ Binds κ.K fd ps []
def VMs (P : Program) (w : World) (κ : Kx) (mg : Str → Option Value) (base : Heap) (m : Str) (k : Nat) (ms : List Bool) (gs : Nat → Option FSem) : Prop := ∀ c g, gs c = some g → ∃ j, j ≤ k ∧ VMt P w κ mg base c m j ms g
structure VMtI (P : Program) (w : World) (κ : Kx) (mg : Str → Option Value) (base : Heap) (c : Nat) (m : Str) (k : Nat) (ms : List Bool) (g : FSemI) : Prop where
  ex : ∃ (f : Addr) (fd : FuncData) (ps : List Str), L2.Cls κ.K (κ.cl c) ∧ L2.Meth κ.K (κ.cl c) m f ∧ m ∉ κ.fl c ∧ FnOk P w κ.K mg base (L2.CX P w) k f fd ps (spI κ 0 ms g) ∧ Binds κ.K fd ps []
/-- a class that is made -/
structure VMk (P : Program) (w : World) (κ : Kx) (mg : Str → Option Value) (base : Heap) (x : Str) (c : Nat) (k : Nat) (ms : List Bool) (g : FSemI) : Prop where
  ex : ∃ (f : Addr) (fd : FuncData) (ps : List Str), mg x = some (.ref (κ.cl c)) ∧ Mk κ.K (κ.cl c) f ∧ FnOk P w κ.K mg base (L2.CX P w) k f fd ps (spI κ 0 ms g) ∧ Binds κ.K fd ps []
/-- C.__init__(self, ..) -/
structure VCi (P : Program) (w : World) (κ : Kx) (mg : Str → Option Value) (base : Heap) (x : Str) (c : Nat) (m : Str) (k : Nat) (ms : List Bool) (g : FSemI) : Prop where
  ex : ∃ (f : Addr) (fd : FuncData) (ps : List Str) (mc : Value), mg x = some (.ref (κ.cl c)) ∧ ClX.CRead κ.K (κ.cl c) mc ∧ PySem.W.findCls κ.K (.ref (κ.cl c)) mc m = some (.val (.ref f)) ∧ PySem.W.keepIn κ.K (.ref f) = true ∧ FnOk P w κ.K mg base (L2.CX P w) k f fd ps (spI κ 0 ms g) ∧ Binds κ.K fd ps []
def fMeth (gs : Nat → Option FSem) (mo : Sm D) (mr : Sm (List D)) : Sm Rs := bnd mo fun x => match x with
  | .ob c l => match gs c with
    | some g => fCall (fun ds => g (.ob c l :: ds)) mr
    | none => fun _ => none
  | _ => fun _ => none
def fMethI (i c : Nat) (g : FSemI) (m : Sm (List D)) : Sm Rs := fun e => match obAt e i with
  | some (c', _) => if c' = c then fCallI i g m e else none
  | none => none
def fMake (c : Nat) (g : FSemI) (m : Sm (List D)) : Sm Rs := bnd m fun ds e => match g (.ob c []) ds with
  | some (.rt (.sh .non) o) => some (.ok (.tr o) e)
  | some (.ex x _) => some (.ex x e)
  | _ => none
section
variable {X : Cx} {κ : Kx} {W : WX} {e o : Expr} {es : List Expr} {ms : List Bool} {g : FSem} {gI : FSemI} {gs : Nat → Option FSem} {mo : Sm D} {mr : Sm (List D)} {k : Nat} {x m : Str} {p pos apos np : Pos} {c : Nat}
theorem RBs.rpx {H G : Hp} {F : List Addr} {ms : List Bool} {vs : List V} {ds : List D} (h : allSh ms = true) (r : RBs κ H G ms vs ds) : RBx κ H G F ms vs ds := (RBs.all h r).x (r.len.1.symm)
/-- the receiver is an own object, args all given away -/
theorem methI_tr {t : TA} {i : Nat} (F : VMtI X.prog X.w κ X.mg X.base c m k ms gI) (hs : allSh ms = true) (hK : X.K = κ.K) (hr : Room k X.A) (ht : ∀ σ H P, tX κ W (RA κ ms) mr σ H P → t σ H P) {σ : L2.St} {H : Hp} {Q : VK} (h : tI κ W (RV κ) (fMethI i c gI mr) σ H Q) : tMethV X m (fun σ => WE W σ) (tVar i) t σ H Q := by
  obtain ⟨G, env, r, q⟩ := h
  obtain ⟨f, fd, ps, h1, h2, h3, h4, h5⟩ := F.ex
  rw [← hK] at h1 h2 h4 h5
  unfold fMethI at q
  cases ho : obAt env i with
  | none => rw [ho] at q; exact q.elim
  | some cf =>
    obtain ⟨c', fs⟩ := cf
    rw [ho] at q
    dsimp only at q
    by_cases hc : c' = c
    · subst hc
      rw [if_pos rfl] at q
      obtain ⟨s, a, dx, ys, F', es, g, e4, e5, e6, e7, e8, e9, e10⟩ := ob_at r ho
      refine ⟨_, e4, _, f, fd, ps, k, _, a, dx, ys, rfl, e6, lookup_out e8 h3, h1, h2, h4, hr, h5, ht _ _ _ (bind_postI r q fun ds e2 vs H2 G2 _ r2 rs f2 q2 => ?_).pu⟩
      cases z : e2[i]? with
      | none => rw [z] at q2; exact q2.elim
      | some s2 =>
        rw [z] at q2
        dsimp only at q2
        cases z2 : getO s2 with
        | none => rw [z2] at q2; exact q2.elim
        | some o2 =>
          rw [z2] at q2
          exact callI_post (q0 := 0) r2 z z2 e4 (Nat.zero_le _) (RBs.rpx hs rs) q2
    · rw [if_neg hc] at q; exact q.elim
theorem i_methI {pl : Sem Bool} {i : Nat} (F : VMtI X.prog X.w κ X.mg X.base c m k ms gI) (hs : allSh ms = true) (hK : X.K = κ.K) (hr : Room k X.A) (tk : Takes X W) (ho : PE X (.Name x np) (tVar i)) (ha : PA X (e :: es) (tX κ W (RA κ ms) mr))
    (hst : starEach (e :: es) X.env = (false, eval e X.env) :: starEach es X.env := by rfl) (hpl : (backTo pos (starEach es X.env)).any (·.1) = false := by rfl)
    (ht : eval (.Call (.Attribute (.Name x np) m apos) (e :: es) [] pos) X.env = (do
      let ov ← eval (.Name x np) X.env
      standAt apos.atName
      let (f, first) ← holding [ov] (getMethod ov m pl)
      callWith pos f first (backTo pos (starEach (e :: es) X.env)) (backToKw pos (keywordEach [] X.env))) := by rfl) :
    PE X (.Call (.Attribute (.Name x np) m apos) (e :: es) [] pos) (tI κ W (RV κ) (fMethI i c gI mr)) :=
  PE.imp (pe_methV (fun σ => passAt tk σ) ho ha hst hpl ht) fun σ H Q h => methI_tr F hs hK hr (fun _ _ _ h => h) h
theorem i_methI0 {pl : Sem Bool} {i : Nat} (F : VMtI X.prog X.w κ X.mg X.base c m k [] gI) (hK : X.K = κ.K) (hr : Room k X.A) (tk : Takes X W) (ho : PE X (.Name x np) (tVar i))
    (ht : eval (.Call (.Attribute (.Name x np) m apos) [] [] pos) X.env = (do
      let ov ← eval (.Name x np) X.env
      standAt apos.atName
      let (f, first) ← holding [ov] (getMethod ov m pl)
      callWith pos f first (backTo pos (starEach [] X.env)) (backToKw pos (keywordEach [] X.env))) := by rfl) :
    PE X (.Call (.Attribute (.Name x np) m apos) [] [] pos) (tI κ W (RV κ) (fMethI i c gI aNil)) :=
  PE.imp (pe_methV0 (fun σ => passAt tk σ) ho ht) fun σ H Q h => methI_tr F rfl hK hr (fun σ H P ⟨G, env, r, q⟩ => q [] H G r .nil (Grw.refl _) Fr.refl) h
/-- C(..) -/
theorem make_tr {t : TA} (F : VMk X.prog X.w κ X.mg X.base x c k ms gI) (ht : ∀ σ H P, tX κ W (RA κ ms) mr σ H P → t σ H P) {σ : L2.St} {H : Hp} {Q : VK} (h : tX κ W (RV κ) (fMake c gI mr) σ H Q) : tMakeS (κ.cl c) (spI κ 0 ms gI) (fun σ => WE W σ) t σ H Q := by
  obtain ⟨G, env, r, q⟩ := h
  refine ht _ _ _ (bind_post r q fun ds e1 vs H1 G1 _ r1 rv s1 f1 q1 => ?_)
  intro a dx ha hdx ne
  have hb : Same H1 (upd (upd H1 dx (.own a)) a (.ins (κ.cl c) dx [])) := fun b u e => by
    rw [upd_ne (ne_of_none e ha), upd_ne (ne_of_none e hdx)]
    exact e
  have nn : ∀ b, b = a ∨ upd (upd H1 dx (.own a)) a (.ins (κ.cl c) dx []) b = none → H1 b = none := fun b h => by
    rcases h with rfl | h
    · exact ha
    · cases w : H1 b with
      | none => rfl
      | some u => rw [hb b u w] at h; cases h
  have ga : G1.g a = none := r1.sub.none ha
  refine ⟨G1.g, .ref a, vs, ds, .ob c [], [a], rfl, Nat.zero_le _, r1.sub.kept hb, .ob upd_same ga rfl .nil (fun m => by cases m), (rv.x fun b m => by rw [List.mem_singleton.mp m]; exact ha).mono (gr hb) (Same.refl _), ?_⟩
  have fin : ∀ {H' G' : Hp}, Chg κ (upd (upd H1 dx (.own a)) a (.ins (κ.cl c) dx [])) G1 [a] H' G' → Rep κ H' ⟨G', G1.fp⟩ σ e1 ∧ Grw H1 H' ∧ Fr H1 G1 σ e1 H' ⟨G', G1.fp⟩ σ e1 := fun {H' G'} ch => by
    have sm : Grw H1 H' := fun b u e => ch.hk b u (hb b u e) fun m => by rw [List.mem_singleton.mp m, ha] at e; cases e
    have gn : ∀ b u, H1 b = some u → G1.g b = none → G' b = none := fun b u e g => ch.gn b u (hb b u e) g fun m => by rw [List.mem_singleton.mp m, ha] at e; cases e
    exact ⟨r1.grow (G' := ⟨G', G1.fp⟩) sm ch.gk ch.sub (fun _ => rfl) fun i b o => by
      obtain ⟨⟨u, h⟩, g0⟩ := r1.own o
      exact gn b u h g0, sm, Fr.same sm ch.gk (fun b u h g0 _ => gn b u h g0) (fun _ _ _ h => h) fun _ _ _ h => ⟨h, rfl⟩⟩
  cases z : gI (.ob c []) ds with
  | none => rw [z] at q1; exact q1.elim
  | some w => cases w with
    | rt y o' =>
      cases y with
      | sh d =>
        cases d with
        | non =>
          rw [z] at q1
          intro v H' G' F' ch ro hF rf
          obtain ⟨rp, sm, fr⟩ := fin ch
          refine ⟨by cases rf; rfl, q1 (.ref a) H' ⟨G', G1.fp⟩ rp ⟨F', ro, fun b m => ?_⟩ sm fr⟩
          have hb0 := nn b (by rcases hF b m with h | h
                               · exact .inl (List.mem_singleton.mp h)
                               · exact .inr h)
          exact ⟨r1.fre hb0, fun u e => by rw [hb0] at e; cases e⟩
        | _ => rw [z] at q1; exact q1.elim
      | _ => rw [z] at q1; exact q1.elim
    | ex y o' =>
      rw [z] at q1
      intro cc d H' G' F' ch ro hF xr
      obtain ⟨rp, sm, fr⟩ := fin ch
      exact q1 cc d H' ⟨G', G1.fp⟩ rp xr sm fr
theorem v_make (F : VMk X.prog X.w κ X.mg X.base x c k ms gI) (hK : X.K = κ.K) (hr : Room (k + 1) X.A) (tk : Takes X W) (hg : Gl X x) (ha : PA X (e :: es) (tX κ W (RA κ ms) mr)) (hdb : (x == ("__debug__" : Str)) = false := by decide)
    (he : starEach (e :: es) X.env = (false, eval e X.env) :: starEach es X.env := by rfl) (hpl : (backTo pos (starEach es X.env)).any (·.1) = false := by rfl) : PE X (.Call (.Name x p) (e :: es) [] pos) (tX κ W (RV κ) (fMake c gI mr)) := by
  obtain ⟨f, fd, ps, hm, M, F1, hb⟩ := F.ex
  rw [← hK] at M F1 hb
  exact PE.imp (pe_makeS M F1 hr hg hm hb (fun σ => passAt tk σ) ha hdb he hpl) fun σ H Q h => make_tr F (fun _ _ _ h => h) h
theorem v_make0 (F : VMk X.prog X.w κ X.mg X.base x c k [] gI) (hK : X.K = κ.K) (hr : Room (k + 1) X.A) (tk : Takes X W) (hg : Gl X x) (hdb : (x == ("__debug__" : Str)) = false := by decide) : PE X (.Call (.Name x p) [] [] pos) (tX κ W (RV κ) (fMake c gI aNil)) := by
  obtain ⟨f, fd, ps, hm, M, F1, hb⟩ := F.ex
  rw [← hK] at M F1 hb
  exact PE.imp (pe_makeS0 M F1 hr hg hm hb (fun σ => passAt tk σ) hdb) fun σ H Q h => make_tr F (fun σ H P ⟨G, env, r, q⟩ => q [] H G r .nil (Grw.refl _) Fr.refl) h
/-! ### arguments with a thing to be changed -/
def RAI (κ : Kx) (i q0 : Nat) (ms : List Bool) : Rl (List D) (List V) := fun σ _ H G _ vs ds => ∃ v us, vs = insA q0 v us ∧ σ[i]? = some (some v) ∧ RBs κ H G ms us ds ∧ q0 ≤ ms.length
instance {i q0 : Nat} : RlMono (RAI κ i q0 ms) := ⟨fun _ q => q⟩
def aHere (i : Nat) (m : Sm (List D)) : Sm (List D) := fun e => match e[i]? with
  | some s => match getO s with
    | some _ => m e
    | none => none
  | none => none
theorem ai_here {i : Nat} (hx : PE X (.Name x np) (tVar i)) (hr : PA X es (tX κ W (RA κ ms) mr)) (hs : starEach (.Name x np :: es) X.env = (false, eval (.Name x np) X.env) :: starEach es X.env := by rfl) : PA X (.Name x np :: es) (tX κ W (RAI κ i 0 ms) (aHere i mr)) :=
  PA.imp (pa_cons hx hr hs) fun σ H Q ⟨G, env, r, q⟩ => by
    unfold aHere at q
    cases w : env[i]? with
    | none => rw [w] at q; exact q.elim
    | some s =>
      rw [w] at q
      dsimp only at q
      cases z : getO s with
      | none => rw [z] at q; exact q.elim
      | some o =>
        rw [z] at q
        obtain ⟨v, h1, h2⟩ := (r.slot i s w).th (getO_th z).1
        refine ⟨v, h1, G, env, r, ?_⟩
        dsimp only at q
        cases y : mr env with
        | none => rw [y] at q; exact q
        | some oo => cases oo with
          | ex x e1 => rw [y] at q; exact q
          | ok ds e1 =>
            rw [y] at q
            exact fun us H1 G1 r1 rs s1 f1 => q (v :: us) H1 G1 r1 ⟨v, us, rfl, h1, rs, Nat.zero_le _⟩ s1 f1
theorem callI_tr {t : TA} {i q0 : Nat} {sp : Sp} (hsp : sp = spI κ q0 ms gI) (hs : allSh ms = true) (ht : ∀ σ H P, tX κ W (RAI κ i q0 ms) mr σ H P → t σ H P) {σ : L2.St} {H : Hp} {Q : VK} (h : tI κ W (RV κ) (fCallI i gI mr) σ H Q) : t σ H fun vs H1 => sp vs H1 Q (WE W σ) := by
  subst hsp
  obtain ⟨G, env, r, q⟩ := h
  refine ht _ _ _ (bind_postI r q fun ds e2 vs H2 G2 _ r2 rs f2 q2 => ?_).pu
  obtain ⟨v, us, e, h1, h2, h3⟩ := rs
  subst e
  cases z : e2[i]? with
  | none => rw [z] at q2; exact q2.elim
  | some s2 =>
    rw [z] at q2
    dsimp only at q2
    cases z2 : getO s2 with
    | none => rw [z2] at q2; exact q2.elim
    | some o2 =>
      rw [z2] at q2
      exact callI_post (q0 := q0) r2 z z2 h1 h3 (RBs.rpx hs h2) q2
theorem i_callI {i q0 : Nat} (F : VFnI X.prog X.w κ X.mg X.base x k q0 ms gI) (hs : allSh ms = true) (hK : X.K = κ.K) (hr : Room k X.A) (tk : Takes X W) (hg : Gl X x) (ha : PA X (e :: es) (tX κ W (RAI κ i q0 ms) mr)) (hdb : (x == ("__debug__" : Str)) = false := by decide)
    (he : starEach (e :: es) X.env = (false, eval e X.env) :: starEach es X.env := by rfl) (hpl : (backTo pos (starEach es X.env)).any (·.1) = false := by rfl) : PE X (.Call (.Name x p) (e :: es) [] pos) (tI κ W (RV κ) (fCallI i gI mr)) := by
  obtain ⟨f, fd, ps, hm, hk, F1, hb⟩ := F.ex
  rw [← hK] at hk F1 hb
  exact PE.imp (pe_callS F1 hr hg hm hk hb (fun σ => passAt tk σ) ha hdb he hpl) fun σ H Q h => callI_tr rfl hs (fun _ _ _ h => h) h
/-- C.__init__(self, ..) -/
theorem i_init {pl : Sem Bool} {i : Nat} (F : VCi X.prog X.w κ X.mg X.base x c m k ms gI) (hs : allSh ms = true) (hK : X.K = κ.K) (hr : Room k X.A) (tk : Takes X W) (hg : Gl X x) (ha : PA X (e :: es) (tX κ W (RAI κ i 0 ms) mr)) (hdb : (x == ("__debug__" : Str)) = false := by decide)
    (hst : starEach (e :: es) X.env = (false, eval e X.env) :: starEach es X.env := by rfl) (hpl : (backTo pos (starEach es X.env)).any (·.1) = false := by rfl)
    (ht : eval (.Call (.Attribute (.Name x np) m apos) (e :: es) [] pos) X.env = (do
      let ov ← eval (.Name x np) X.env
      standAt apos.atName
      let (f, first) ← holding [ov] (getMethod ov m pl)
      callWith pos f first (backTo pos (starEach (e :: es) X.env)) (backToKw pos (keywordEach [] X.env))) := by rfl) :
    PE X (.Call (.Attribute (.Name x np) m apos) (e :: es) [] pos) (tI κ W (RV κ) (fCallI i gI mr)) := by
  obtain ⟨f, fd, ps, mc, hm, h1, h2, h3, F1, hb⟩ := F.ex
  rw [← hK] at h1 h2 h3 F1 hb
  exact PE.imp (pe_clsS (pe_glob (v := .ref (κ.cl c)) hg hm rfl hdb) h1 h2 h3 F1 hr hb (fun σ => passAt tk σ) ha hst hpl ht) fun σ H Q h => ⟨rfl, callI_tr rfl hs (fun _ _ _ h => h) h⟩
/-! ### values that change, put together -/
theorem i_op {op : Operator} {r : R2} {f : D → D → Option Rs} {a b : Expr} {ma mb : Sm D} (ho : OpR X (binaryOp op) r) (hs : OpV κ r f) (ha : PE X a (tI κ W (RP κ) ma)) (hb : PE X b (tI κ W (RP κ) mb)) : PE X (.BinOp a op b pos) (tI κ W (RV κ) (fOp f ma mb)) :=
  PE.imp (pe_op ho ha hb) fun σ H Q ⟨G, env, r0, q⟩ => by
    refine bind_postI r0 q fun dx e1 x H1 G1 _ rp1 rx f1 q1 => ?_
    refine bind_postI rp1 q1 fun dy e2 y H2 G2 _ rp2 ry f2 q2 => ?_
    cases z : f dx dy with
    | none => rw [z] at q2; exact q2.elim
    | some w => rw [z] at q2; exact hs W σ x y dx dy w H2 G2 e2 Q z rp2 (.inl (Rp.mono f2.gk rx)) (.inl ry) q2.pu
theorem it_cmp {op : CmpOp} {r : R2} {f : D → D → Option Bool} {a b : Expr} {ma mb : Sm D} (ho : OpR X (compareOp op) r) (hs : OpB κ r f) (ha : PE X a (tI κ W (RP κ) ma)) (hb : PE X b (tI κ W (RP κ) mb)) (hm : behindInMarks op b = false) : PT X (.Compare a [op] [b] pos) (tI κ W RT (fOp f ma mb)) :=
  PT.imp (pt_cmpR ho ha hb hm) fun σ H Q ⟨G, env, r0, q⟩ => by
    refine bind_postI r0 q fun dx e1 x H1 G1 _ rp1 rx f1 q1 => ?_
    refine bind_postI rp1 q1 fun dy e2 y H2 G2 _ rp2 ry f2 q2 => ?_
    cases z : f dx dy with
    | none => rw [z] at q2; exact q2.elim
    | some w => rw [z] at q2; exact hs x y dx dy w H2 G2 _ z rp2.sub (.inl (Rp.mono f2.gk rx)) (.inl ry) ⟨w, rfl, post_tt rp2 q2.pu⟩
theorem ia_nil : PA X [] (tI κ W (RA κ []) aNil) := im_a a_nil
theorem ia_sh {a : Expr} {ma : Sm D} (ha : PE X a (tI κ W (RP κ) ma)) (hr : PA X es (tI κ W (RA κ ms) mr)) (hm : allSh ms = true) (hs : starEach (a :: es) X.env = (false, eval a X.env) :: starEach es X.env := by rfl) : PA X (a :: es) (tI κ W (RA κ (false :: ms)) (aCons ma mr)) :=
  PA.imp (pa_cons ha hr hs) fun σ H Q ⟨G, env, r, q⟩ => by
    refine bind_postI r q fun d e1 x H1 G1 _ r1 rx f1 q1 => ?_
    refine bind_postI r1 q1 fun ds e2 vs H2 G2 _ r2 rs f2 q2 => ?_
    exact q2 (x :: vs) H2 G2 r2 (.sh (Rp.mono f2.gk rx) rs) Fr.refl
theorem RBs.unsh {H G : Hp} : ∀ {ms ms' : List Bool} {vs : List V} {ds : List D}, allSh ms = true → ms'.length = ms.length → RBs κ H G ms vs ds → RBs κ H G ms' vs ds
  | _, [], _, _, _, _, .nil => .nil
  | _, _ :: _, _, _, _, h, .nil => by cases h
  | _, [], _, _, _, h, .sh _ _ => by cases h
  | _, true :: ms', _, _, a, h, .sh r t => .bo (.inl r) (RBs.unsh (by simpa [allSh] using a) (by simpa using h) t)
  | _, false :: ms', _, _, a, h, .sh r t => .sh r (RBs.unsh (by simpa [allSh] using a) (by simpa using h) t)
  | _, _, _, _, a, _, .bo _ _ => by simp [allSh] at a
/-- f(..) with arguments that change something, all given away -/
theorem i_call {ms' : List Bool} (F : VFn X.prog X.w κ X.mg X.base x k ms g) (hK : X.K = κ.K) (hr : Room k X.A) (tk : Takes X W) (hg : Gl X x) (hs : allSh ms' = true) (hn : ms.length = ms'.length) (ha : PA X (e :: es) (tI κ W (RA κ ms') mr)) (hdb : (x == ("__debug__" : Str)) = false := by decide)
    (he : starEach (e :: es) X.env = (false, eval e X.env) :: starEach es X.env := by rfl) (hpl : (backTo pos (starEach es X.env)).any (·.1) = false := by rfl) : PE X (.Call (.Name x p) (e :: es) [] pos) (tI κ W (RV κ) (fCall g mr)) := by
  obtain ⟨f, fd, ps, hm, hk, F1, hb⟩ := F.ex
  rw [← hK] at hk F1 hb
  refine PE.imp (pe_callS F1 hr hg hm hk hb (fun σ => passAt tk σ) ha hdb he hpl) fun σ H Q ⟨G, env, r, q⟩ => ?_
  exact bind_postI r q fun d e1 vs H1 G1 em r1 rv f1 q1 => call_post r1 (RBs.unsh hs hn rv) q1.pu
/-! ### methods of own lists -/
/-- xs.pop() -/
def fPop0 (i : Nat) : Sm D := fun e => match e[i]? with
  | some s => match getL s with
    | some l => match l[l.length - 1]? with
      | some d => some (.ok d (e.set i (setL s l.dropLast)))
      | none => none
    | none => none
  | none => none
theorem RpA.dl {H G : Hp} {xs : List V} {l : List D} (r : RpA κ G xs l) : RpA κ G xs.dropLast l.dropLast := by
  rw [List.dropLast_eq_take, List.dropLast_eq_take, r.length]
  exact r.take _
theorem i_pop0 {i : Nat} (hK : X.K = κ.K) (hx : PE X (.Name x np) (tVar i)) (hbase : attributeBase (.Name x np) "pop" X.env (eval (.Name x np) X.env) = eval (.Name x np) X.env := by rfl) (hline : (apos.endLine == pos.line) = true := by rfl) :
    PE X (.Call (.Attribute (.Name x np) "pop" apos) [] [] pos) (tI κ W (RP κ) (fPop0 i)) :=
  PE.imp (pe_bm0 PySem.F.plainAttrs_list PySem.F.slot_list_pop PySem.F.type_list_pop mt_pop hx hbase hline) fun σ H Q ⟨G, env, r, q⟩ => by
    unfold fPop0 at q
    cases w : env[i]? with
    | none => rw [w] at q; exact q.elim
    | some s =>
      rw [w] at q
      dsimp only at q
      cases z : getL s with
      | none => rw [z] at q; exact q.elim
      | some l =>
        rw [z] at q
        dsimp only at q
        cases y : l[l.length - 1]? with
        | none => rw [y] at q; exact q.elim
        | some d =>
          rw [y] at q
          obtain ⟨a, xs, h1, h2, h3, h4, h5⟩ := lst_at r w z
          obtain ⟨v, hv, rv⟩ := h3.getD y
          obtain ⟨G2, eg, r2, f2⟩ := r.chg w z h1 (h3.dl (H := H))
          rw [hK]
          exact ⟨_, h1, .inl ⟨rfl, xs, SqL.of h2⟩, a, xs, v, rfl, rfl, h2, by rw [h3.length]; exact hv, q v _ G2 r2 (by show Rp κ G2.g v d; rw [eg]; exact rv) f2⟩
/-- xs.pop(i) -/
def fPop1 (i : Nat) (m : Sm D) : Sm D := fun e0 => match e0[i]? with
  | some s0 => match getL s0 with
    | some _ => bnd m (fun j e => match j with
      | .int z => match e[i]? with
        | some s => match getL s with
          | some l => if -1000000 ≤ z ∧ z ≤ 1000000 then match seqIndex? z l.length with
            | some k => match l[k]? with
              | some d => some (.ok d (e.set i (setL s (l.eraseIdx k))))
              | none => none
            | none => none
            else none
          | none => none
        | none => none
      | _ => none) e0
    | none => none
  | none => none
theorem RpA.erase {G : Hp} : ∀ {xs : List V} {l : List D} (k : Nat), RpA κ G xs l → RpA κ G (xs.eraseIdx k) (l.eraseIdx k)
  | _, _, _, .nil => .nil
  | _, _, 0, .cons _ t => t
  | _, _, k + 1, .cons r t => .cons r (RpA.erase k t)
/-- xs.insert(i, e) -/
def sIns (i : Nat) (mj m : Sm D) : Ss := sOwn i (sbnd mj fun j => sbnd m fun d => match j with
  | .int z => chL i fun l => if 0 ≤ z ∧ z ≤ 1000000 ∧ l.length < szl then some (l.take z.toNat ++ [d] ++ l.drop z.toNat) else none
  | _ => fun _ => none)
end
end Vs


set_option Elab.async false
set_option linter.all false
set_option maxRecDepth 100000
set_option maxHeartbeats 2000000
/-! Vs7: more of the built-ins and of the classes. -/
namespace Vs
open PySem L2 PyProof.Rows
/-! ### isinstance of an own class -/
structure IsoOk (κ : Kx) (cv : Value) (tab : Nat → Option Bool) : Prop where
  ok : ∀ c b, tab c = some b → L2.Cls κ.K (κ.cl c) ∧ PySem.W.findIn κ.K (.ref (κ.cl c)) "__class__" = some (some (.builtin "object.__class__")) ∧ PySem.W.specialIn κ.K (.builtin "object.__class__") "__get__" = some (some (.builtin "getset_descriptor.__get__")) ∧ PySem.W.takesIn κ.K (.builtin "object.__class__") = some true ∧ PySem.W.mroIn κ.K (κ.cl c) (.type "object") = some true ∧ PySem.W.kitOne κ.K (.ref (κ.cl c)) cv = some b
def fIsO (tab : Nat → Option Bool) (m : Sm D) : Sm D := bnd m fun d e => match d with
  | .ob c _ => match tab c with
    | some b => some (.ok (.bl b) e)
    | none => none
  | _ => none
section
variable {X : Cx} {κ : Kx} {W : WX} {o e e2 : Expr} {mo : Sm D} {pos p p2 : Pos}
end
/-! ### a method with a default -/
section
variable {X : Cx} {k : Nat} {m : Str} {pos apos : Pos} {e o : Expr} {es : List Expr} {ta : TE} {t : TA} {E : L2.St → XK}
def tMethVD (X : Cx) (m : Str) (dvs : List V) (E : L2.St → XK) (ta : TE) (t : TA) : TE := fun σ H Q => ta σ H fun x H1 => ∃ (C g : Addr) (fd : FuncData) (ps : List Str) (k : Nat) (sp : Sp) (a dx : Addr) (fs : List (Str × V)) (ds : List Value), x = .ref a ∧ H1 a = some (.ins C dx fs) ∧ fs.lookup m = none ∧
  L2.Cls X.K C ∧ L2.Meth X.K C m g ∧ FnOk X.prog X.w X.K X.mg X.base (L2.CX X.prog X.w) k g fd ps sp ∧ Room k X.A ∧ Binds X.K fd ps ds ∧ Vals dvs ds ∧ t σ H1 fun vs H2 => sp ((x :: vs) ++ dvs) H2 Q (E σ)
end
def VMsD (P : Program) (w : World) (κ : Kx) (mg : Str → Option Value) (base : Heap) (m : Str) (k : Nat) (ms : List Bool) (gs : Nat → Option FSem) (dv : Int) : Prop := ∀ c g, gs c = some g → ∃ j, j ≤ k ∧ ∃ (f : Addr) (fd : FuncData) (ps : List Str), L2.Cls κ.K (κ.cl c) ∧ L2.Meth κ.K (κ.cl c) m f ∧ m ∉ κ.fl c ∧ FnOk P w κ.K mg base (L2.CX P w) j f fd ps (spV κ (false :: ms) g) ∧ Binds κ.K fd ps [] ∧ ∃ ds, Vals [V.int dv] ds ∧ Binds κ.K fd ps ds
def fMethD (gs : Nat → Option FSem) (dv : Int) (mo : Sm D) (mr : Sm (List D)) : Sm Rs := fMeth (fun c => match gs c with
  | some g => some fun ds => g (ds ++ [.int dv])
  | none => none) mo mr
section
variable {X : Cx} {κ : Kx} {W : WX} {e o e2 : Expr} {es : List Expr} {ms : List Bool} {mo : Sm D} {mr : Sm (List D)} {k : Nat} {x m : Str} {p p2 pos apos np : Pos} {gs : Nat → Option FSem} {dv : Int} {mm : Bool}
/-! ### own lists in an own object -/
/-- self.f.append(e) -/
def chF (i : Nat) (tab : Nat → Option Nat) (f : List D → Option (List D)) (e : En) : Option En := match obAt e i with
  | some (c, fs) => match tab c with
    | some k => match fs[k]? with
      | some (.ow l) => match f l with
        | some l' => match e[i]? with
          | some s => some (e.set i (setO s (.ob c (fs.set k (.ow l')))))
          | none => none
        | none => none
      | _ => none
    | none => none
  | none => none
theorem RFs.chg {H G : Hp} {b : Addr} {xs' : List V} {l' : List D} (hb : H b = some (.lst xs')) (r : RpA κ G xs' l') : ∀ {vs : List V} {fs : List Fd} {F : List Addr} (H0 : Hp) (k : Nat) (l : List D), RFs κ H0 G vs fs F → fs[k]? = some (.ow l) → vs[k]? = some (.ref b) → (∀ a u, a ≠ b → H0 a = some u → H a = some u) → RFs κ H G vs (fs.set k (.ow l')) F
  | _, _, _, H0, k, l, .nil, h, _, _ => by simp at h
  | _, _, _, H0, 0, l, .sh _ _, h, _, _ => by simp at h
  | _, _, _, H0, 0, l, .ow h1 h2 h3 h4 t, h, hv, hk => by
    simp only [List.getElem?_cons_zero, Option.some.injEq, V.ref.injEq] at hv
    subst hv
    exact .ow hb h2 r h4 (t.grow (Same.refl _) (fun a u m h => hk a u (fun z => h4 (z ▸ m)) h) fun a m => (t.own m).2)
  | _, _, _, H0, k + 1, l, .sh q t, h, hv, hk => .sh q (RFs.chg hb r H0 k l t (by simpa using h) (by simpa using hv) hk)
  | _, _, _, H0, k + 1, l, .ow h1 h2 h3 h4 t, h, hv, hk => by
    rename_i a0 xs0 l0 vs0 fs0 F0
    have h' : fs0[k]? = some (.ow l) := by simpa using h
    have hv' : vs0[k]? = some (.ref b) := by simpa using hv
    have ne : a0 ≠ b := fun z => by
      obtain ⟨v, e1, e2⟩ := t.at (k := k) (x := .ow l) h'
      rw [hv'] at e1
      cases e1
      rcases e2 with ⟨d, e, _⟩ | ⟨a, xs, l2, e, e3, _, _, _, m⟩
      · cases e
      · cases e3
        exact h4 (z ▸ m)
    exact .ow (hk _ _ ne h1) h2 h3 h4 (RFs.chg hb r H0 k l t h' hv' hk)
theorem chF_of {i : Nat} {tab : Nat → Option Nat} {f : Str} {g : List D → Option (List D)} (hf : FldOk κ f tab) {σ : L2.St} {H : Hp} {G : Gh} {env e1 : En} (r : Rep κ H G σ env) (h : chF i tab g env = some e1) :
    ∃ b xs l l', eFd i tab env = some (.ow l) ∧ g l = some l' ∧ H b = some (.lst xs) ∧ RpA κ G xs l ∧ (∀ Q : VK, Q (.ref b) H → tFld κ.K (tVar i) f σ H Q) ∧ (∃ a C dx zs, σ[i]? = some (some (.ref a)) ∧ H a = some (.ins C dx zs) ∧ zs.lookup f = some (.ref b)) ∧
      ∀ ys, RpA κ G ys l' → ∃ G', G'.g = G.g ∧ Rep κ (upd H b (.lst ys)) G' σ e1 ∧ Fr H G σ env (upd H b (.lst ys)) G' σ e1 := by
  unfold chF at h
  cases ho : obAt env i with
  | none => rw [ho] at h; cases h
  | some cf =>
    obtain ⟨c, fs⟩ := cf
    rw [ho] at h
    dsimp only at h
    cases w : tab c with
    | none => rw [w] at h; cases h
    | some k =>
      rw [w] at h
      dsimp only at h
      cases y : fs[k]? with
      | none => rw [y] at h; cases h
      | some x =>
        rw [y] at h
        cases x with
        | sh d => cases h
        | ow l =>
          dsimp only at h
          cases z : g l with
          | none => rw [z] at h; cases h
          | some l' =>
            rw [z] at h
            dsimp only at h
            obtain ⟨s, a, dx, zs, F', es, go, h4, h5, h6, h7, h8, h9, h10⟩ := ob_at r ho
            rw [es] at h
            cases h
            obtain ⟨v, hv, rv⟩ := h9.at y
            rcases rv with ⟨d, e, _⟩ | ⟨b, xs, l2, e, e2, e3, e4, e5, e6⟩
            · cases e
            · cases e
              subst e2
              obtain ⟨g1, g2, g3, g4, _⟩ := hf.ok c k w
              refine ⟨b, xs, l, l', by unfold eFd; rw [ho]; dsimp only; rw [w]; exact y, z, e3, e5, fun Q q => ⟨_, h4, a, _, dx, zs, _, rfl, h6, g1, g2, lookup_at h8 g4 g3 hv, q⟩, ⟨a, _, dx, zs, h4, h6, lookup_at h8 g4 g3 hv⟩, fun ys hy => ?_⟩
              have nb : a ≠ b := fun q => h10 (q ▸ e6)
              have fs' := RFs.chg (κ := κ) (G := G) (H := upd H b (.lst ys)) (b := b) upd_same hy H k l h9 y hv (fun a u n hu => by rw [upd_ne n]; exact hu)
              have ro : RO κ (upd H b (.lst ys)) G (.ref a) (.ob c (fs.set k (.ow l'))) (a :: F') := .ob (by rw [upd_ne nb]; exact h6) h7 (by rw [List.length_set]; exact h8) fs' h10
              exact r.chgO (s' := setO s (.ob c (fs.set k (.ow l')))) es (getO_th go).2 (getO_th go).1 setO_th.1 (setO_was go) setO_th.2 h4 ro (fun c' u hu m => by
                have n : c' ≠ b := fun q => m (by rw [h5, q]; exact List.mem_cons_of_mem _ e6)
                rw [upd_ne n]
                exact hu) fun c' m => .inl (by rw [h5]; exact m)
def sAppF (i : Nat) (tab : Nat → Option Nat) (m : Sm D) : Ss := fun e0 => match chF i tab some e0 with
  | some _ => sbnd m (fun d e => match chF i tab (fun l => if l.length < szl then some (l ++ [d]) else none) e with
    | some e1 => some (.nx e1)
    | none => none) e0
  | none => none
def fPopF (i : Nat) (tab : Nat → Option Nat) : Sm D := fun e => match eFd i tab e with
  | some (.ow l) => match l[l.length - 1]? with
    | some d => match chF i tab (fun l => some l.dropLast) e with
      | some e1 => some (.ok d e1)
      | none => none
    | none => none
  | _ => none
theorem i_popF {i : Nat} {tab : Nat → Option Nat} {f : Str} {fpos : Pos} (hf : FldOk κ f tab) (hK : X.K = κ.K) (hx : PE X (.Name x np) (tVar i)) (hb : attributeBase (.Name x np) f X.env (eval (.Name x np) X.env) = eval (.Name x np) X.env := by rfl)
    (hbase : attributeBase (.Attribute (.Name x np) f fpos) "pop" X.env (eval (.Attribute (.Name x np) f fpos) X.env) = eval (.Attribute (.Name x np) f fpos) X.env := by rfl) (hline : (apos.endLine == pos.line) = true := by rfl) :
    PE X (.Call (.Attribute (.Attribute (.Name x np) f fpos) "pop" apos) [] [] pos) (tI κ W (RP κ) (fPopF i tab)) :=
  PE.imp (pe_bm0 PySem.F.plainAttrs_list PySem.F.slot_list_pop PySem.F.type_list_pop mt_pop (pe_fld hx hb) hbase hline) fun σ H Q ⟨G, env, r, q⟩ => by
    unfold fPopF at q
    split at q
    · rename_i l he
      split at q
      · rename_i d hd
        split at q
        · rename_i e1 hc
          obtain ⟨b, xs, l3, l4, g0, g1, g2, g3, g4, _, g5⟩ := chF_of hf r hc
          rw [he] at g0
          cases g0
          cases g1
          obtain ⟨v, hv, rv⟩ := g3.getD hd
          obtain ⟨G2, eg, r2, f2⟩ := g5 xs.dropLast (g3.dl (H := H))
          rw [hK]
          exact g4 _ ⟨.inl ⟨rfl, xs, SqL.of g2⟩, b, xs, v, rfl, rfl, g2, by rw [g3.length]; exact hv, q v _ G2 r2 (by show Rp κ G2.g v d; rw [eg]; exact rv) f2⟩
        · exact q.elim
      · exact q.elim
    · exact q.elim

theorem sbind_postX {α β : Type} {R : Rl α β} {σ : L2.St} {H : Hp} {G : Gh} {env : En} {m : Sm α} {f : α → Ss} {D : Ends} (r : Rep κ H G σ env) (h : SPost κ W σ H G env (sbnd m f env) D)
    {P' : β → Hp → Prop} (k : ∀ a env1 v H1 G1, m env = some (.ok a env1) → Rep κ H1 G1 σ env1 → R σ (Nw H G env) H1 G1 env1 v a → Grw H H1 → Fr H G σ env H1 G1 σ env1 → SPost κ W σ H1 G1 env1 (f a env1) D → P' v H1) :
    tX κ W R m σ H P' := by
  refine ⟨G, env, r, ?_⟩
  unfold sbnd at h
  cases e : m env with
  | none => rw [e] at h; exact h
  | some q => cases q with
    | ok a e1 =>
      rw [e] at h
      exact fun v H1 G1 r1 r2 s2 f2 => k a e1 v H1 G1 e r1 r2 s2 f2 (SPost.shift f2 h)
    | ex x e1 =>
      rw [e] at h
      exact fun c d H' G' a b _ g => h c d σ H' G' a b g
theorem s_appF {i : Nat} {tab : Nat → Option Nat} {f : Str} {fpos cpos : Pos} {m1 : Sm D} (hf : FldOk κ f tab) (hK : X.K = κ.K) (hx : PE X (.Name x np) (tVar i)) (he : PE X e (tX κ W (RP κ) m1)) (hb : attributeBase (.Name x np) f X.env (eval (.Name x np) X.env) = eval (.Name x np) X.env := by rfl)
    (hs : swapsWith (.Call (.Attribute (.Attribute (.Name x np) f fpos) "append" apos) [e] [] cpos) none pos.line X.env = pure false := by rfl)
    (hbase : attributeBase (.Attribute (.Name x np) f fpos) "append" X.env (eval (.Attribute (.Name x np) f fpos) X.env) = eval (.Attribute (.Name x np) f fpos) X.env := by rfl)
    (hfew : ((backTo cpos (starEach [e] X.env)).all (fun x => !x.1) && (backToKw cpos (keywordEach [] X.env)).all (fun x => x.1.isSome)
      && decide (([e] : List Expr).length + ([] : List Keyword).length + (if ([] : List Keyword).isEmpty then 0 else 1) < 30)) = true := by rfl)
    (hline : (apos.endLine == cpos.line) = true := by rfl) (hst : starEach [e] X.env = (false, eval e X.env) :: starEach [] X.env := by rfl) (hplain : (backTo cpos (starEach [] X.env)).any (·.1) = false := by rfl) :
    PS X (.Expr (.Call (.Attribute (.Attribute (.Name x np) f fpos) "append" apos) [e] [] cpos) pos) (tS κ W (sAppF i tab m1)) :=
  PS.imp (ps_expr (pe_bm PySem.F.plainAttrs_list PySem.F.slot_list_append PySem.F.type_list_append mt_append (pe_fld hx hb) (pa_cons he pa_nil hst) hbase hfew hline hst hplain) hs) fun D σ H ⟨G, env, r, q⟩ => by
    unfold sAppF at q
    split at q
    · rename_i e0 hc0
      obtain ⟨b, xs, l0, _, h0, _, h2, h3, h4, ⟨a0, C0, dx0, zs0, k1, k2, k3⟩, _⟩ := chF_of hf r hc0
      rw [hK]
      show tFld κ.K (tVar i) f σ H (fun x H1 => tyV κ.K "list" x H1 ∧ tCons (tX κ W (RP κ) m1) tNil σ H1 fun xs H2 => rAppend x xs H2 fun _ H3 => D.nx σ H3)
      refine h4 _ ⟨.inl ⟨rfl, xs, SqL.of h2⟩, ?_⟩
      refine sbind_postX r q fun d e1 v H1 G1 _ r1 rv s1 f1 q1 => ?_
      split at q1
      · rename_i e2 hc
        obtain ⟨b', ys, l, l', g0, g1, g2, g3, g4, ⟨a1, C1, dx1, zs1, j1, j2, j3⟩, g5⟩ := chF_of hf r1 hc
        rw [k1] at j1
        cases j1
        rw [s1.at k2] at j2
        cases j2
        rw [k3] at j3
        cases j3
        by_cases hsz : l.length < szl
        · rw [if_pos hsz] at g1
          cases g1
          obtain ⟨G2, eg, r2, f2⟩ := g5 (ys ++ [v]) (g3.append (.cons rv .nil))
          exact ⟨b, ys, v, rfl, rfl, g2, by rw [g3.length]; exact szl_lt (Nat.le_of_lt hsz), q1 σ _ G2 r2 f2⟩
        · rw [if_neg hsz] at g1; cases g1
      · exact q1.elim
    · exact q.elim

/-! ### zip -/
def zipL (l k : List D) : List D := List.zipWith (fun a b => .tup [a, b]) l k
def fZip (m n : Sm (List D)) : Sm (List D) := bnd m fun l => bnd n fun k e => some (.ok (zipL l k) e)
/-! ### xs.index(e) -/
def ixL (x : D) : List D → Option Nat
  | [] => none
  | y :: l => if y.feq x = true then some 0 else match ixL x l with
    | some j => some (j + 1)
    | none => none
def ixP (x : PyData) : List PyData → Option Nat
  | [] => none
  | y :: l => if PyData.eqv y x = true then some 0 else match ixP x l with
    | some j => some (j + 1)
    | none => none
def fML (f : List D → D → Option Rs) (mo me : Sm D) : Sm Rs := bnd mo fun x => match x with
  | .lst l => bnd me fun y e => match f l y with
    | some z => some (.ok z e)
    | none => none
  | _ => fun _ => none
def opIdx (l : List D) (x : D) : Option Rs := if x.fl = true ∧ l.all D.fl = true then (match ixL x l with
      | some j => some (.sh (.int (j : Int)))
      | none => none)
    else if x.okE = true ∧ (D.lst l).okE = true then (match ixP x.toP (toPA l) with
      | some j => some (.sh (.int (j : Int)))
      | none => none) else none
def rIdxA (κ : Kx) : V → List V → Hp → VK → Prop := fun x xs H Q => rIndex κ.K x xs H Q ∨ rIndexD κ.K x xs H Q
/-! ### any, all, sorted, max, min -/
def allBls : List D → Option (List Bool)
  | [] => some []
  | .bl b :: r => match allBls r with
    | some l => some (b :: l)
    | none => none
  | _ :: _ => none
def opAny : List D → Option Rs
  | [.lst l] => match allBls l with
    | some bs => some (.sh (.bl (bs.any id)))
    | none => none
  | _ => none
def opAll : List D → Option Rs
  | [.lst l] => match allBls l with
    | some bs => some (.sh (.bl (bs.all id)))
    | none => none
  | _ => none
def insI (x : Int) : List Int → List Int
  | [] => [x]
  | y :: l => if x ≤ y then x :: y :: l else y :: insI x l
def srtI : List Int → List Int
  | [] => []
  | x :: l => insI x (srtI l)
def opSorted : List D → Option Rs
  | [.lst l] => match allInts l with
    | some ns => some (.ow ((srtI ns).map D.int))
    | none => none
  | _ => none
def maxL : List Int → Option Int
  | [] => none
  | x :: l => some (l.foldl (fun a b => if a < b then b else a) x)
def minL : List Int → Option Int
  | [] => none
  | x :: l => some (l.foldl (fun a b => if b < a then b else a) x)
def opMaxL : List D → Option Rs
  | [.lst l] => match allInts l with
    | some ns => match maxL ns with
      | some m => some (.sh (.int m))
      | none => none
    | none => none
  | _ => none
def opMinL : List D → Option Rs
  | [.lst l] => match allInts l with
    | some ns => match minL ns with
      | some m => some (.sh (.int m))
      | none => none
    | none => none
  | _ => none
/-! ### more methods of texts -/
def opRfind : List Nat → D → Option Rs
  | a, .str b => some (.sh (.int (Txt.rfind (S a) (S b))))
  | _, _ => none
def opCount : List Nat → D → Option Rs
  | a, .str b => some (.sh (.int (Txt.count (S a) (S b))))
  | _, _ => none
variable {me : Sm D}
end
/-! a comprehension inside a comprehension -/
/-! ### <= over data -/
def rLeD (K : PySem.W.Frag) : R2 := fun x y H Q => ∃ d e, Dp K H x d ∧ Dp K H y e ∧ PySem.W.alike d e = true ∧ d ≠ .none ∧ d.depth ≤ 64 ∧ Q (.bl (!PySem.W.dataLt e d)) H
theorem op_leD {X : Cx} (hu : X.A.units + 64 < cLine) : OpR X (compareOp .LtE) (rLeD X.K) := by
  intro pins s σ H x y v u Q I rx ry h
  obtain ⟨d, e, hd, he, ha, hn, hz, q⟩ := h
  obtain ⟨as, r1⟩ := Dp.reads I d x v hd rx
  obtain ⟨bs, r2⟩ := Dp.reads I e y u he ry
  exact PySem.W.le_data r1 r2 ha hn (by omega) ⟨.bl _, H, I, rfl, q⟩
def dLe (x y : D) : Option Bool := if x.pl = true ∧ y.pl = true ∧ PySem.W.alike x.toP y.toP = true ∧ x.toP.depth ≤ 64 then some (!PySem.W.dataLt y.toP x.toP) else none
def cLeA : D → D → Option Bool
  | .int i, .int j => some (decide (i ≤ j))
  | .str a, .str b => some (!decide (b < a))
  | .lst a, .lst b => dLe (.lst a) (.lst b)
  | .tup a, .tup b => dLe (.tup a) (.tup b)
  | _, _ => none
def rLeA (κ : Kx) : R2 := fun x y H Q => rCm (fun i j => decide (i ≤ j)) (fun a b => !decide (b < a)) x y H Q ∨ rLeD κ.K x y H Q
theorem o_leA {X : Cx} {κ : Kx} (hK : X.K = κ.K) (hu : X.A.units + 64 < cLine) : OpR X (compareOp .LtE) (rLeA κ) := by
  unfold rLeA
  rw [← hK]
  exact OpR.or o_le (op_leD hu)
theorem dLe_of {κ : Kx} {x y : V} {dx dy : D} {z : Bool} {H G : Hp} {Q : VK} (hn : dx.toP ≠ .none) (e : dLe dx dy = some z) (s : Same G H) (rx : RBq κ H G x dx) (ry : RBq κ H G y dy) (q : Q (.bl z) H) : rLeD κ.K x y H Q := by
  unfold dLe at e
  split at e
  · rename_i h
    cases e
    exact ⟨_, _, rx.dp s h.1, ry.dp s h.2.1, h.2.2.1, hn, h.2.2.2, q⟩
  · cases e
theorem s_leA {κ : Kx} : OpB κ (rLeA κ) cLeA := fun x y dx dy z H G Q e s rx ry q => by
  cases dx <;> cases dy <;> try (cases e; done)
  · rename_i i j
    exact .inl (s_cm x y (.int i) (.int j) z H G Q e s rx ry q)
  · rename_i i j
    exact .inl (s_cm x y (.str i) (.str j) z H G Q e s rx ry q)
  · exact .inr (dLe_of (by simp only [D.toP]; exact fun z => nomatch z) e s rx ry q)
  · exact .inr (dLe_of (by simp only [D.toP]; exact fun z => nomatch z) e s rx ry q)
end Vs


set_option Elab.async false
set_option linter.all false
set_option maxRecDepth 100000
set_option maxHeartbeats 2000000
/-! Vs8: sep.join(reversed(text)). -/
namespace RS
open PySem PySem.Spec PyProof.Rows L2
def rsObj (x : Str) (t : Tok) (i : Int) : Obj := { cls := .type "reversed", data := .fields #[.str x t, rawInt i] }
def IsRs (h : Heap) (a : Addr) (x : Str) (t : Tok) (i : Int) : Prop := ∃ o, h.get? a = some o ∧ o.cls = .type "reversed" ∧ o.data = .fields #[.str x t, rawInt i]
theorem IsRs.at {h h' : Heap} {a : Addr} {x : Str} {t : Tok} {i : Int} (q : IsRs h a x t i) (e : ∀ o, h.get? a = some o → h'.get? a = some o) : IsRs h' a x t i := let ⟨o, ho, r⟩ := q; ⟨o, e _ ho, r⟩
section
variable {prog : Program} {w : World} {A : Around} {E : Value → Shared → Prop} {s : Shared} {x : Str} {t : Tok}
end
section
variable {X : Cx}
def tJoinRev (to te : TE) : TE := fun σ H Q => to σ H fun v H1 => (∃ a, v = .str a) ∧ te σ H1 fun u H2 => ∃ a b : Str, v = .str a ∧ u = .str b ∧ b.length ≤ sizeLine ∧
  ((b.cps.toList.reverse.map fun c => (⟨#[c]⟩ : Str)).map (·.length)).sum + (b.cps.toList.reverse.map fun c => (⟨#[c]⟩ : Str)).length * a.length ≤ 16777216 ∧ Q (.str (Txt.join a (b.cps.toList.reverse.map fun c => (⟨#[c]⟩ : Str)))) H2
end
/-! ### list(reversed(list)) -/
section
variable {prog : Program} {w : World} {A : Around} {E : Value → Shared → Prop} {s : Shared}
end
section
variable {X : Cx}
def tListRev (K : PySem.W.Frag) (te : TE) : TE := fun σ H Q => te σ H fun v H1 => ∃ (a : Addr) (xs : List V), v = .ref a ∧ SqL K H1 a xs ∧ ∀ q, H1 q = none → Q (.ref q) (upd H1 q (.lst xs.reverse))
end
end RS
namespace Vs
open PySem L2
/-! ### reversed -/
/-- ''.join(reversed(text)) -/
def opJoinRev : List Nat → D → Option Rs
  | [], .str w => if w.length ≤ szl then some (.sh (.str w.reverse)) else none
  | _, _ => none
/-- list(reversed(list)) -/
def fLRev (m : Sm D) : Sm Rs := bnd m fun d e => match d with
  | .lst l => some (.ok (.ow l.reverse) e)
  | _ => none
section
variable {X : Cx} {κ : Kx} {W : WX} {o e : Expr} {mo me : Sm D} {apos pos p p2 pos2 : Pos}
end
end Vs


set_option Elab.async false
set_option linter.all false
set_option maxRecDepth 100000
set_option maxHeartbeats 2000000
/-! Vs9: a list that a call gave and no name holds, changed in a statement; isinstance of three classes. -/
namespace Vs
open PySem PySem.Spec PyProof.Rows L2
section
variable {κ : Kx} {W : WX} {σ : L2.St} {H H' : Hp} {G G' : Gh} {env env' : En} {a : Addr}
end
/-- e().clear(), the list that the call gave -/
def sTmpC (m : Sm Rs) : Ss := sbnd m fun r e => match r with
  | .ow _ => some (.nx e)
  | _ => none
/-- e().append(v) -/
def sTmpA (m : Sm Rs) (m2 : Sm D) : Ss := sbnd m fun r => match r with
  | .ow l => if l.length < szl then sbnd m2 fun _ e => some (.nx e) else fun _ => none
  | _ => fun _ => none
section
variable {X : Cx} {κ : Kx} {W : WX} {e o : Expr} {mo : Sm Rs} {m : Sm D} {apos cpos pos p2 : Pos}
end
section
variable {X : Cx} {κ : Kx} {W : WX} {x : Str} {np : Pos} {i : Nat}
end
end Vs


set_option Elab.async false
set_option linter.all false
set_option maxRecDepth 100000
set_option maxHeartbeats 2000000
/-! Va: several except clauses with names; is False. -/
namespace L2
open PySem PySem.Spec PyProof.Rows
/-- what the named clauses wish of an exception of the body, one after the other -/
def wManyAs (K : PySem.W.Frag) (Wout : WX) (D : Ends) : List (Value × Option Nat × (Addr → Value → Option Addr → TS)) → WX
  | [] => Wout
  | (c, none, ts) :: r => fun cls d σ H => ∃ b, PySem.W.exmOne K cls c = some b ∧ (b = true → ∀ a, H a = none → ts a cls d D σ H) ∧ (b = false → wManyAs K Wout D r cls d σ H)
  | (c, some i, ts) :: r => fun cls d σ H => ∃ b, PySem.W.exmOne K cls c = some b ∧ (b = true → ∀ a, H a = none → ts a cls d { nx := fun σ' H' => D.nx (σ'.set i none) H', rt := D.rt, bk := fun σ' H' => D.bk (σ'.set i none) H', ct := fun σ' H' => D.ct (σ'.set i none) H' } (σ.set i (some (.ref a))) H) ∧ (b = false → wManyAs K Wout D r cls d σ H)
inductive HdsAs (X : Cx) : List ExceptHandler → List (Value × Option Nat × (Addr → Value → Option Addr → TS)) → Prop
  | nil : HdsAs X [] []
  | cons {x n : Str} {c : Value} {i : Nat} {ts : Addr → Value → Option Addr → TS} {b₀ : Stmt} {suite : List Stmt} {np pos' : Pos} {hds : List ExceptHandler} {l : List (Value × Option Nat × (Addr → Value → Option Addr → TS))} (hc : Names X x c) (hi : X.N[i]? = some n) (hln : X.env.kindOf n = some .local)
      (hsu : ∀ (a : Addr) (oe : Obj) (cls : Value) (d : Option Addr) (pn : List (Addr × Obj)), Zc cls d oe → (∃ vs, oe.data = .fields vs) → PSs (X.suite a ((a, oe) :: pn)) (b₀ :: suite) (ts a cls d)) (r : HdsAs X hds l) :
      HdsAs X (.ExceptHandler (some (.Name x np)) (some n) (b₀ :: suite) pos' :: hds) ((c, some i, ts) :: l)
  | cons0 {x : Str} {c : Value} {ts : Addr → Value → Option Addr → TS} {b₀ : Stmt} {suite : List Stmt} {np pos' : Pos} {hds : List ExceptHandler} {l : List (Value × Option Nat × (Addr → Value → Option Addr → TS))} (hc : Names X x c)
      (hsu : ∀ (a : Addr) (oe : Obj) (cls : Value) (d : Option Addr) (pn : List (Addr × Obj)), Zc cls d oe → (∃ vs, oe.data = .fields vs) → PSs (X.suite a ((a, oe) :: pn)) (b₀ :: suite) (ts a cls d)) (r : HdsAs X hds l) :
      HdsAs X (.ExceptHandler (some (.Name x np)) none (b₀ :: suite) pos' :: hds) ((c, none, ts) :: l)
section
variable {X : Cx} {body : List Stmt} {h₀ : ExceptHandler} {hds : List ExceptHandler} {l : List (Value × Option Nat × (Addr → Value → Option Addr → TS))} {pos : Pos} {tb : WX → TS} {Wout : WX}
end
end L2
namespace Vs
open PySem PySem.Spec PyProof.Rows L2
/-- is False, is True -/
def cIsB : D → D → Option Bool
  | .bl a, .bl b => some (decide (a = b))
  | _, _ => none
def cNotB : D → D → Option Bool
  | .bl a, .bl b => some (!decide (a = b))
  | _, _ => none
noncomputable def hdl (xs : Nat → Nat → Option Bool) (x : Ex) (e1 : En) : List (Nat × Option Nat × (Xo → Ss)) → Option SO
  | [] => some (.ex x e1)
  | (h, none, ms) :: r => match xs x.c h with
    | some true => allEq fun o => noX (ms o e1)
    | some false => hdl xs x e1 r
    | none => none
  | (h, some i, ms) :: r => match xs x.c h with
    | some true => if i < e1.length then allEq fun o => aftr i (ms o (e1.set i (.sh (.xn o x)))) else none
    | some false => hdl xs x e1 r
    | none => none
/-- except X as n, except Y as m -/
noncomputable def sTryM (xs : Nat → Nat → Option Bool) (l : List (Nat × Option Nat × (Xo → Ss))) (body : Ss) : Ss := fun e => match body e with
  | some (.ex x e1) => hdl xs x e1 l
  | o => o
inductive HdsM (X : Cx) (κ : Kx) (xs : Nat → Nat → Option Bool) : List ExceptHandler → List (Nat × Option Nat × (Xo → Ss)) → Prop
  | nil : HdsM X κ xs [] []
  | cons {x n : Str} {h i : Nat} {ms : Xo → Ss} {b₀ : Stmt} {suite : List Stmt} {np pos' : Pos} {hds : List ExceptHandler} {l : List (Nat × Option Nat × (Xo → Ss))} (hi : X.N[i]? = some n) (hln : X.env.kindOf n = some .local) (hc : Names X x (.ref (κ.xc h))) (hx : XsOk κ xs h)
      (hsu : ∀ (a : Addr) (oe : Obj) (cls : Value) (d : Option Addr) (pn : List (Addr × Obj)), Zc cls d oe → (∃ vs, oe.data = .fields vs) → PSs (X.suite a ((a, oe) :: pn)) (b₀ :: suite) (tS κ WF (ms ⟨a, cls, d⟩))) (r : HdsM X κ xs hds l) :
      HdsM X κ xs (.ExceptHandler (some (.Name x np)) (some n) (b₀ :: suite) pos' :: hds) ((h, some i, ms) :: l)
  | cons0 {x : Str} {h : Nat} {ms : Xo → Ss} {b₀ : Stmt} {suite : List Stmt} {np pos' : Pos} {hds : List ExceptHandler} {l : List (Nat × Option Nat × (Xo → Ss))} (hc : Names X x (.ref (κ.xc h))) (hx : XsOk κ xs h)
      (hsu : ∀ (a : Addr) (oe : Obj) (cls : Value) (d : Option Addr) (pn : List (Addr × Obj)), Zc cls d oe → (∃ vs, oe.data = .fields vs) → PSs (X.suite a ((a, oe) :: pn)) (b₀ :: suite) (tS κ WF (ms ⟨a, cls, d⟩))) (r : HdsM X κ xs hds l) :
      HdsM X κ xs (.ExceptHandler (some (.Name x np)) none (b₀ :: suite) pos' :: hds) ((h, none, ms) :: l)
section
variable {X : Cx} {κ : Kx} {W : WX} {xs : Nat → Nat → Option Bool} {body : List Stmt} {h₀ : ExceptHandler} {hds : List ExceptHandler} {l : List (Nat × Option Nat × (Xo → Ss))} {pos : Pos} {mb : Ss}
def toT (κ : Kx) (l : List (Nat × Option Nat × (Xo → Ss))) : List (Value × Option Nat × (Addr → Value → Option Addr → TS)) := l.map fun p => (.ref (κ.xc p.1), p.2.1, fun a cls d => tS κ WF (p.2.2 ⟨a, cls, d⟩))
theorem HdsM.as {hds : List ExceptHandler} {l : List (Nat × Option Nat × (Xo → Ss))} (h : HdsM X κ xs hds l) : HdsAs X hds (toT κ l) := by
  induction h with
  | nil => exact .nil
  | cons hi hln hc hx hsu r ih => exact .cons hc hi hln hsu ih
  | cons0 hc hx hsu r ih => exact .cons0 hc hsu ih
end
end Vs


set_option Elab.async false
set_option linter.all false
set_option maxRecDepth 100000
set_option maxHeartbeats 2000000
/-! Vb: a caught error handed to a def that asks of what class it is. -/
namespace Vs
open PySem PySem.Spec PyProof.Rows L2
section
variable {P : Program} {w : World} {K : PySem.W.Frag} {mg : Str → Option Value} {base : Heap} {CX : CXT} {k : Nat}
/-- what a def promises where p's object stands in the state -/
structure FnP (P : Program) (w : World) (K : PySem.W.Frag) (mg : Str → Option Value) (base : Heap) (CX : CXT) (k : Nat) (f : Addr) (fd : FuncData) (ps : List Str) (p : Addr × Obj) (sp : Sp) : Prop where
  len : ∀ vs H Q E, sp vs H Q E → vs.length = ps.length
  run : ∀ (A : Around) (outer : List Env) (s : Shared) (H : Hp) (args : Args) (us : List Value) (vs : List V) (Q : VK) (E : XK), L2H.RoomH k A → L2H.PinOk outer H s p → Env0 P w K mg base A outer s H → BindsTo s fd args (ps.zip us) → Vals vs us → sp vs H Q E →
    codeAny (model P w) A (.call (.ref f) args) (CR CX outer P w H s Q E) s
end
section
variable {X : Cx} {CX : CXT} {k : Nat} {f : Addr} {fd : FuncData} {ps : List Str} {sp : Sp} {E : L2.St → XK} {x : Str} {q pos : Pos} {e : Expr} {es : List Expr} {t : TA} {p : Addr × Obj}
end
/-- .. as the written part tells it: for every error caught -/
structure VFnP (P : Program) (w : World) (κ : Kx) (mg : Str → Option Value) (base : Heap) (x : Str) (k : Nat) (ms : List Bool) (g : Xo → FSem) : Prop where
  ex : ∃ (f : Addr) (fd : FuncData) (ps : List Str), mg x = some (.ref f) ∧ PySem.W.keepIn κ.K (.ref f) = true ∧ (∀ (a : Addr) (oe : Obj) (cls : Value) (d : Option Addr), Zc cls d oe → (∃ vs, oe.data = .fields vs) → FnP P w κ.K mg base (L2.CX P w) k f fd ps (a, oe) (spV κ ms (g ⟨a, cls, d⟩))) ∧ Binds κ.K fd ps []
section
variable {X : Cx} {κ : Kx} {W : WX} {e : Expr} {es : List Expr} {ms : List Bool} {g : Xo → FSem} {mr : Sm (List D)} {k : Nat} {x : Str} {p pos : Pos} {a : Addr} {oe : Obj} {cls : Value} {d : Option Addr} {pn : List (Addr × Obj)}
end
section
variable {X : Cx} {κ : Kx} {W : WX} {x : Str} {np : Pos} {i : Nat}
end
end Vs


set_option Elab.async false
set_option linter.all false
set_option maxRecDepth 100000
set_option maxHeartbeats 2000000
/-! Vc: tuples and lists that hold own lists; a thing of one's own given away for the time of one expression. -/
namespace Vs
open PySem PySem.Spec PyProof.Rows L2
/-- the own thing at slot i, taken out -/
def eO (i : Nat) : Sm Rs := fun env => match env[i]? with
  | some (.sh d) => some (.ok (.sh d) env)
  | some (.ow l) => some (.ok (.ow l) (env.set i .un))
  | some (.tr o) => some (.ok (.tr o) (env.set i .un))
  | _ => none
def aConsF (m : Sm Rs) (mr : Sm (List Fd)) : Sm (List Fd) := bnd m fun r => bnd mr fun fs e => match r.fd with
  | some f => some (.ok (f :: fs) e)
  | none => none
def aNilF : Sm (List Fd) := fun e => some (.ok [] e)
def RFA (κ : Kx) : Rl (List Fd) (List V) := fun _ N H G env vs fs => ∃ F, RFs κ H G vs fs F ∧ ∀ a, a ∈ F → Fre G env a ∧ N a
/-- a tuple, a list of things that may be own lists -/
def fSq (t : Bool) (m : Sm (List Fd)) : Sm Rs := bnd m fun fs e => if fs.length ≤ szl then some (.ok (.tr (.sq t fs)) e) else none
section
variable {X : Cx} {κ : Kx} {W : WX} {a : Expr} {es : List Expr} {pos : Pos} {ma : Sm Rs} {mr : Sm (List Fd)}
end
/-! ### several names, from an own tuple -/
def Fd.sl : Fd → Sl
  | .sh d => .sh d
  | .ow l => .ow l
def setFd : List Nat → List Fd → En → Option En
  | [], [], e => some e
  | i :: is, f :: fs, e => if i < e.length then setFd is fs (e.set i f.sl) else none
  | _, _, _ => none
def sTgF (is : List Nat) (m : Sm Rs) : Ss := sbnd m fun r e => match r with
  | .sh (.tup ds) => match setAll is ds e with
    | some e1 => some (.nx e1)
    | none => none
  | .tr (.sq true fs) => match setFd is fs e with
    | some e1 => some (.nx e1)
    | none => none
  | _ => none
section
variable {X : Cx} {κ : Kx} {W : WX}
end
/-! ### given away for the time of one expression -/
def D.atm : D → Bool
  | .non => true
  | .bl _ => true
  | .int _ => true
  | .str _ => true
  | _ => false
/-- the expression reads slot i's own thing as shared; its value holds nothing of it -/
def fTmp {α : Type} (ok : α → Bool) (i : Nat) (m : Sm α) : Sm α := fun e => match e[i]? with
  | some s => match s.mut, s.th with
    | true, some o => match o.d with
      | some d => match m (e.set i (.sh d)) with
        | some (.ok x _) => if ok x = true then some (.ok x e) else none
        | _ => none
      | none => none
    | _, _ => m e
  | none => none
section
variable {X : Cx} {κ : Kx} {W : WX}
end
end Vs


set_option Elab.async false
set_option linter.all false
set_option maxRecDepth 100000
set_option maxHeartbeats 2000000
/-! Vd: an except suite that raises NoUse; defs whose errors have no context. -/
namespace L2
open PySem PySem.Spec PyProof.Rows
section
variable {X : Cx} {C fI : Addr}
end
end L2
namespace Vs
open PySem PySem.Spec PyProof.Rows L2
/-- a def whose errors have no context keeps its function -/
structure VFnN (P : Program) (w : World) (κ : Kx) (mg : Str → Option Value) (base : Heap) (x : Str) (k : Nat) (ms : List Bool) (g : FSem) : Prop where
  ex : ∃ (f : Addr) (fd : FuncData) (ps : List Str), mg x = some (.ref f) ∧ PySem.W.keepIn κ.K (.ref f) = true ∧ FnOk P w κ.K mg base (L2N.CX P w) k f fd ps (spV κ ms g) ∧ Binds κ.K fd ps []
section
variable {X : Cx} {κ : Kx} {W : WX} {e a : Expr} {es : List Expr} {ms : List Bool} {g : FSem} {mr : Sm (List D)} {m : Sm D} {k : Nat} {x : Str} {p pos pos2 : Pos}
end
/-- except X, the suite may raise -/
def sTryR (xs : Nat → Nat → Option Bool) (h : Nat) (body suite : Ss) : Ss := fun e => match body e with
  | some (.ex x e1) => match xs x.c h with
    | some true => suite e1
    | some false => some (.ex x e1)
    | none => none
  | o => o
section
variable {X : Cx} {κ : Kx} {W : WX} {x : Str} {h : Nat} {xs : Nat → Nat → Option Bool} {body suite : List Stmt} {b₀ : Stmt} {np pos pos' : Pos} {mb m0 : Ss}
end
end Vs


set_option Elab.async false
set_option linter.all false
set_option maxRecDepth 100000
set_option maxHeartbeats 2000000
/-! Ve: the own lists within an own tuple or list, read and changed. -/
namespace Vs
open PySem PySem.Spec PyProof.Rows L2
def sqAt (e : En) (i : Nat) : Option (Bool × List Fd) := match e[i]? with
  | some (.tr (.sq t fs)) => some (t, fs)
  | _ => none
/-- the item's number within the thing at slot i -/
def RIt (κ : Kx) (i : Nat) : Rl Int V := fun σ _ H _ env v z => ∃ t fs k a xs, sqAt env i = some (t, fs) ∧ ixN fs.length z = some k ∧ σ[i]? = some (some (.ref a)) ∧ H a = some (sqH t xs) ∧ xs[k]? = some v
instance {κ : Kx} {i : Nat} : RlMono (RIt κ i) := ⟨fun _ q => q⟩
def eIxI (i : Nat) (mb : Sm D) : Sm Int := fun e0 => match sqAt e0 i with
  | none => none
  | some _ => bnd mb (fun d e => match d with
    | .int z => match sqAt e i with
      | some (_, fs) => match ixN fs.length z with
        | some k => if k < fs.length then some (.ok z e) else none
        | none => none
      | none => none
    | _ => none) e0
def fItm (i : Nat) (m : Sm Int) : Sm D := bnd m fun z e => match sqAt e i with
  | some (_, fs) => match ixN fs.length z with
    | some k => match fs[k]? with
      | some f => some (.ok f.d e)
      | none => none
    | none => none
  | none => none
def fItV (i : Nat) (m : Sm Int) : Sm D := bnd m fun z e => match sqAt e i with
  | some (_, fs) => match ixN fs.length z with
    | some k => match fs[k]? with
      | some (.sh d) => some (.ok d e)
      | _ => none
    | none => none
  | none => none
/-- the own list at item z of slot i changed -/
def chS (i : Nat) (z : Int) (f : List D → Option (List D)) (e : En) : Option En := match sqAt e i with
  | some (t, fs) => match ixN fs.length z with
    | some k => match fs[k]? with
      | some (.ow l) => match f l with
        | some l' => some (e.set i (.tr (.sq t (fs.set k (.ow l')))))
        | none => none
      | _ => none
    | none => none
  | none => none
section
variable {X : Cx} {κ : Kx} {W : WX} {σ : L2.St} {H H1 H2 : Hp} {G G1 G2 : Gh} {env e1 e2 : En} {i : Nat}
/-! ### statements -/
def sItC (i : Nat) (mo : Sm Int) : Ss := sbnd mo fun z e => match chS i z (fun _ => some []) e with
  | some e1 => some (.nx e1)
  | none => none
def sItA (i : Nat) (mo : Sm Int) (m : Sm D) : Ss := sbnd mo fun z e0 => match chS i z some e0 with
  | some _ => sbnd m (fun d e => match chS i z (fun l => if l.length < szl then some (l ++ [d]) else none) e with
    | some e1 => some (.nx e1)
    | none => none) e0
  | none => none
def sItI (i : Nat) (mo : Sm Int) (mj m : Sm D) : Ss := sbnd mo fun z e0 => match chS i z some e0 with
  | some _ => sbnd mj (fun j => sbnd m fun d e => match j with
    | .int y => match chS i z (fun l => if 0 ≤ y ∧ y ≤ 1000000 ∧ l.length < szl then some (l.take y.toNat ++ [d] ++ l.drop y.toNat) else none) e with
      | some e1 => some (.nx e1)
      | none => none
    | _ => none) e0
  | none => none
def sItS (i : Nat) (mo : Sm Int) (mj m : Sm D) : Ss := sbnd m fun d => sbnd mo fun z => sbnd mj fun j e => match j with
  | .int y => match chS i z (fun l => opSetI l y d) e with
    | some e1 => some (.nx e1)
    | none => none
  | _ => none
variable {o e ej : Expr} {mo : Sm Int} {mj m : Sm D} {apos cpos pos p2 : Pos}
end
end Vs


set_option Elab.async false
set_option linter.all false
set_option maxRecDepth 100000
set_option maxHeartbeats 2000000
/-! Vk: sorted(xs, key=f) where the keys are data that hold lists. -/
namespace Vs
open PySem PySem.Spec PyProof.Rows L2
/-- a heap without the object at c -/
def lessAt (h : Heap) (c : Addr) : Heap := h.update c fun o => { o with data := .freed }
/-- the pairs sorted by their keys -/
noncomputable def sortP {α : Type} (l : List (α × PyData)) : List (α × PyData) := l.mergeSort (PySem.W.dataLe false Prod.snd)
section
variable {X : Cx} {pins : List (Addr × Obj)} {σ : L2.St} {H : Hp} {s : Shared}
end
/-- f(x) gives the key of x, whatever has come to be since; P0 stay pinned -/
def KeyFn (X : Cx) (κ : Kx) (σ : L2.St) (f : Value) (P0 : List (Addr × Obj)) (key : D → Option D) (H0 G0 : Hp) : Prop :=
  ∀ (H1 G1 : Hp) (pins1 : List (Addr × Obj)) (s1 : Shared) (x : V) (u : Value) (d k : D) (P : VK), Grw H0 H1 → Same G0 G1 → Sub κ G1 H1 → (∀ p ∈ P0, p ∈ pins1) → Inv X pins1 σ H1 s1 → RelV x u → Rp κ G1 x d → key d = some k →
    (∀ v H2 G2, Grw H1 H2 → Same G1 G2 → Sub κ G2 H2 → (∀ a o, H1 a = some o → G1 a = none → G2 a = none) → Rp κ G2 v k → P v H2) → wpAny (model X.prog X.w) X.A.in1.in1 (call f [u]) (EP X pins1 σ P) (fun _ _ => False) s1
def keysOf (key : D → Option D) : List D → Option (List D)
  | [] => some []
  | d :: ds => match key d, keysOf key ds with
    | some k, some ks => some (k :: ks)
    | _, _ => none
def okKs (ks : List D) : Prop := (∀ k ∈ ks, k.pl = true ∧ k.toP.depth ≤ 64) ∧ PySem.W.AllAlike (ks.map D.toP) ∧ PySem.W.Sortable (ks.map D.toP)
noncomputable def sortD (ds ks : List D) : List D := (sortP (ds.zip (ks.map D.toP))).map Prod.fst
theorem RpA.at {κ : Kx} {G : Hp} : ∀ {xs : List V} {ds : List D}, RpA κ G xs ds → ∀ {i : Nat} {x : V}, xs[i]? = some x → ∃ d, ds[i]? = some d ∧ Rp κ G x d
  | _, _, .nil, i, x, e => by simp at e
  | _, _, .cons r t, 0, x, e => by
    simp only [List.getElem?_cons_zero, Option.some.injEq] at e
    subst e
    exact ⟨_, rfl, r⟩
  | _, _, .cons r t, i + 1, x, e => by
    simp only [List.getElem?_cons_succ] at e
    exact RpA.at t e
theorem RpA.push {κ : Kx} {G : Hp} {v : V} {d : D} (r : Rp κ G v d) : ∀ {xs : List V} {ds : List D}, RpA κ G xs ds → RpA κ G (xs ++ [v]) (ds ++ [d])
  | _, _, .nil => .cons r .nil
  | _, _, .cons q t => .cons q (RpA.push r t)
section
variable {X : Cx} {pins : List (Addr × Obj)} {σ : L2.St} {H G : Hp} {s : Shared} {κ : Kx}
end
/-! ### key=o.m, a bound method -/
def tBd (K : PySem.W.Frag) (m : Str) (to : TE) : TE := fun σ H Q => to σ H fun x H1 => ∃ a C dx fs g, x = .ref a ∧ H1 a = some (.ins C dx fs) ∧ Cls K C ∧ BMeth K C m g ∧ fs.lookup m = none ∧ ∀ q, H1 q = none → Q (.ref q) (upd H1 q (.met g a))
def keyM (gs : Nat → Option FSem) (o : D) : D → Option D := fun d => match o with
  | .ob c _ => match gs c with
    | some g => match g [o, d] with
      | some (.rt (.sh k)) => some k
      | _ => none
    | none => none
  | _ => none
open Classical in
noncomputable def opSort (key : D → Option D) (l : List D) : Option (List D) := match keysOf key l with
  | some ks => if okKs ks then some (sortD l ks) else none
  | none => none
noncomputable def fSortB (gs : Nat → Option FSem) (m mo : Sm D) : Sm Rs := bnd m fun d => bnd mo fun o e => match d, o with
  | .lst l, .ob c fl => match gs c with
    | some _ => match opSort (keyM gs (.ob c fl)) l with
      | some r => some (.ok (.ow r) e)
      | none => none
    | none => none
  | _, _ => none
def VB (κ : Kx) (m : Str) (gs : Nat → Option FSem) : Prop := ∀ c g, gs c = some g → ∃ f, BMeth κ.K (κ.cl c) m f
/-- what sorted(l, key=q) wants -/
def rSK (X : Cx) (κ : Kx) : List V → List V → Hp → VK → Prop := fun vs zs H Q => ∃ (l q : Addr) (xs : List V) (ds ks : List D) (G : Hp) (key : D → Option D), vs = [.ref l] ∧ zs = [.ref q] ∧ SqL X.K H l xs ∧ Sub κ G H ∧ RpA κ G xs ds ∧ (∀ pins σ, KeyFn X κ σ (.ref q) pins key H G) ∧ keysOf key ds = some ks ∧ okKs ks ∧
  ∀ p ys H' G', Grw H H' → Same G G' → Sub κ G' H' → (∀ a o, H a = some o → G a = none → G' a = none) → H p = none → H' p = none → RpA κ G' ys (sortD ds ks) → Q (.ref p) (upd H' p (.lst ys))
section
variable {X : Cx} {κ : Kx} {W : WX} {e o : Expr} {gs : Nat → Option FSem} {me mo : Sm D} {k : Nat} {m : Str} {p pos apos kpos : Pos}
end
/-! ### xs.remove(e), texts -/
def eqS (k : Str) (v : Value) : Bool := match v with
  | .str n _ => n.cps.toList == k.cps.toList
  | _ => false
def rRemS : V → List V → Hp → VK → Prop := fun x xs H Q => ∃ (l : Addr) (ws : List (List Nat)) (k : List Nat) (j : Nat), x = .ref l ∧ xs = [.str (S k)] ∧ H l = some (.lst ((ws.map S).map V.str)) ∧ ws[j]? = some k ∧ (∀ m : Nat, m < j → ws[m]? ≠ some k) ∧ Q .non (upd H l (.lst (((ws.eraseIdx j).map S).map V.str)))
def remS (k : List Nat) (l : List D) : Option (List D) := match allStrs l with
  | some ws => if k ∈ ws then some ((ws.erase k).map D.str) else none
  | none => none
def sRem (i : Nat) (m : Sm D) : Ss := sOwn i (sbnd m fun d => match d with
  | .str k => chL i (remS k)
  | _ => fun _ => none)
section
variable {X : Cx} {κ : Kx} {W : WX} {e : Expr} {m : Sm D} {pos pos' : Pos}
end
end Vs


set_option Elab.async false
set_option linter.all false
set_option maxRecDepth 100000
set_option maxHeartbeats 2000000
/-! Vl: sorted(xs, key=lambda x: ..). -/
namespace Vs
open PySem PySem.Spec PyProof.Rows L2
section
variable {X : Cx} {pins : List (Addr × Obj)} {σ : L2.St} {H : Hp} {s : Shared}
/-- a lambda's names: one parameter, captured ones, its own -/
structure LamP (so sc : Scope) (x : Str) : Prop where
  kind : sc.kind = .function
  co : sc.isCoroutine = false
  gn : sc.isGenerator = false
  par : sc.names.lookup x = some .local
  nc : ∀ y ∈ sc.names, y.2 ≠ .cell
  fr : ∀ y ∈ sc.names, y.2 = .free → so.names.lookup y.1 = some .cell ∨ so.names.lookup y.1 = some .free
def lamPB (so sc : Scope) (x : Str) : Bool := decide (sc.kind = .function) && (!sc.isCoroutine && (!sc.isGenerator && (decide (sc.names.lookup x = some .local) && sc.names.all fun y => decide (y.2 ≠ .cell) && (decide (y.2 ≠ .free) || (decide (so.names.lookup y.1 = some .cell) || decide (so.names.lookup y.1 = some .free))))))
def lcx (X : Cx) (A : Around) (outer : List Env) (s : Shared) (H : Hp) (sc : Scope) (f e : Addr) (N : List Str) : Cx := { LamX.lamCx X A outer s H (fun _ _ _ => False) sc f e with N := N }
end
/-! ### sorted(xs, key=lambda x: e) as a function -/
/-- a captured name's slot, as the lambda sees it -/
def frS : Sl → Option Sl
  | .sh d => some (.sh d)
  | .bo l => some (.bo l)
  | .ow l => some (.bo l)
  | .lk l => some (.bo l)
  | _ => none
def frL : List Nat → En → Option En
  | [], _ => some []
  | j :: js, e => match e[j]? with
    | some s => match frS s, frL js e with
      | some t, some r => some (t :: r)
      | _, _ => none
    | none => none
def keyL (fr : En) (k : Nat) (mb : Sm D) : D → Option D := fun d => match mb (fr ++ .sh d :: List.replicate k .un) with
  | some (.ok r _) => some r
  | _ => none
noncomputable def fSortL (js : List Nat) (k : Nat) (mb m : Sm D) : Sm Rs := bnd m fun d e => match d with
  | .lst l => match frL js e with
    | some fr => match opSort (keyL fr k mb) l with
      | some r => some (.ok (.ow r) e)
      | none => none
    | none => none
  | _ => none
section
variable {κ : Kx}
theorem SlIn.mono {H H' G G' : Hp} {v : Option V} {t : Sl} (h : Grw H H') (g : Same G G') (n : ∀ o, t ≠ .io o) (q : SlIn κ H G [] v t) : SlIn κ H' G' [] v t := by
  cases t with
  | un => exact trivial
  | sh d =>
    obtain ⟨x, h1, h2⟩ := q
    exact ⟨x, h1, h2.mono g⟩
  | bo l =>
    obtain ⟨a, xs, h1, h2, h3, h4⟩ := q
    exact ⟨a, xs, h1, h.at h2, h3.mono g, h4⟩
  | io o => exact (n o rfl).elim
  | ow l => exact q.elim
  | lk l => exact q.elim
  | tr o => exact q.elim
end
section
variable {X : Cx} {κ : Kx} {H G : Hp} {σ : L2.St}
theorem KeyFn.more {f : Value} {P0 P1 : List (Addr × Obj)} {key : D → Option D} (h : KeyFn X κ σ f P0 key H G) (k : ∀ p ∈ P0, p ∈ P1) : KeyFn X κ σ f P1 key H G := fun H1 G1 pins1 s1 x u d r P gh gg sb hp => h H1 G1 pins1 s1 x u d r P gh gg sb fun p m => hp p (k p m)
end
/-! ### a def whose code object is told; the law's end with tables -/
end Vs
namespace L2
open PySem PySem.Spec PyProof.Rows
end L2
namespace Vs
open PySem PySem.Spec PyProof.Rows L2
/-- the tables of the defs named ns are empty at h -/
def DefTabs (K : PySem.W.Frag) (mg : Str → Option Value) (h : Heap) (ns : List Str) : Prop := ∀ n ∈ ns, ∀ (fa c P : Addr) (o : Obj) (fd : FuncData) (e : Value) (dd : Option Addr) (vs : Array Value) (sl : Array (Option Value)), mg n = some (.ref fa) → K.lookup fa = some o → o.data = .func fd → fd.code = .ref c →
  K.lookup c = some ⟨e, dd, .fields vs, sl⟩ → vs[11]? = some (.ref P) → h.get? P = some { cls := .none, data := .fields #[] } ∧ PySem.W.CodeHd h c P
def spLawT (K : PySem.W.Frag) (T : List (Addr × Str)) : Sp := fun vs H Q E => LamX.Tabs T H ∧ spLaw K vs H Q E
/-- what is told of the law at the head's heap -/
def LawT (l : PySem.W.OpenLaw) (w : World) (K : PySem.W.Frag) (k : Nat) (x : Str) (mg : Str → Option Value) (fa : Addr) (h : Heap) : Prop := ∃ (fd : FuncData) (cs : List (Addr × Addr)) (T : List (Addr × Str)), (∀ p ∈ T, ∃ r ∈ cs, r.2 = p.1) ∧ (∀ p ∈ cs, h.get? p.2 = some { cls := .none, data := .fields #[] }) ∧ (∀ p ∈ cs, K.lookup p.2 = none) ∧
  (∀ p ∈ cs, PySem.W.CodeHd h p.1 p.2) ∧ (∀ (s : Shared) (u : Value), BindsTo s fd ⟨[u], []⟩ [(x, u)]) ∧ ∀ base : Heap, K.In base → base.Ns mainGlobals mg → (∀ p ∈ cs, LamX.TabB base mg p.1 p.2) → FnOk l.prog w K mg base (L2.CX l.prog w) k fa fd [x] (spLawT K T)
end Vs


set_option Elab.async false
set_option linter.all false
set_option maxRecDepth 100000
set_option maxHeartbeats 2000000
/-! Vn: a < b < c as a value; min of two tuples. -/
namespace Vs
open PySem PySem.Spec PyProof.Rows L2
section
variable {X : Cx} {κ : Kx} {W : WX} {a b c : Expr} {ma mb mc : Sm D} {pos : Pos}
def fChV (f g : D → D → Option Bool) (ma mb mc : Sm D) : Sm D := bnd ma fun x => bnd mb fun y => fun e => match f x y with
  | none => none
  | some false => some (.ok (.bl false) e)
  | some true => bnd mc (fun z => fun e => match g y z with
    | some b => some (.ok (.bl b) e)
    | none => none) e
end
/-! ### min of two that are data -/
section
variable {prog : Program} {w : World} {A : Around} {E : Value → Shared → Prop} {s : Shared}
end
def rMinD (K : PySem.W.Frag) : List V → Hp → VK → Prop := fun vs H Q => ∃ (x y : V) (dx dy : PyData), vs = [x, y] ∧ Dp K H x dx ∧ Dp K H y dy ∧ PySem.W.AlikeAll [dx, dy] ∧ PyData.depthAll [dx, dy] ≤ 64 ∧ Q (if PySem.W.dataLt dy dx = true then y else x) H
open Classical in
noncomputable def opMinT : List D → Option Rs
  | [.tup a, .tup b] => if (D.tup a).pl = true ∧ (D.tup b).pl = true ∧ PySem.W.AlikeAll [(D.tup a).toP, (D.tup b).toP] ∧ PyData.depthAll [(D.tup a).toP, (D.tup b).toP] ≤ 64 then some (.sh (if PySem.W.dataLt (D.tup b).toP (D.tup a).toP = true then .tup b else .tup a)) else none
  | _ => none
end Vs


set_option Elab.async false
set_option linter.all false
set_option maxRecDepth 100000
set_option maxHeartbeats 2000000
/-! Vo: own dicts with numbers and texts for keys. -/
namespace Vs
open PySem PySem.Spec PyProof.Rows L2
def D.key : D → Bool
  | .int _ => true
  | .str _ => true
  | _ => false
/-- what stands at a key -/
def dcG (k : D) : List (D × D) → Option D
  | [] => none
  | p :: r => if p.1.feq k = true then some p.2 else dcG k r
/-- a key's value put: in its place, or at the end -/
def dcP (k v : D) (l : List (D × D)) : List (D × D) := if (l.any fun p => p.1.feq k) = true then l.map (fun p => if p.1.feq k = true then (p.1, v) else p) else l ++ [(k, v)]
def keyD : D → Key
  | .int i => .inl i
  | .str w => .inr (S w)
  | _ => .inl 0
theorem kD_feq (a b : Key) : (kD a).feq (kD b) = decide (a = b) := by
  cases a with
  | inl i =>
    cases b with
    | inl j =>
      show (i == j) = _
      rw [Bool.eq_iff_iff]
      simp
    | inr y => simp [kD, D.feq]
  | inr x =>
    cases b with
    | inl j => simp [kD, D.feq]
    | inr y =>
      show (x.cps.toList == y.cps.toList) = _
      rw [Bool.eq_iff_iff]
      simp only [beq_iff_eq, decide_eq_true_eq, Sum.inr.injEq]
      constructor
      · intro h
        rw [← S_list x, ← S_list y]
        show S x.cps.toList = S y.cps.toList
        rw [h]
      · intro h
        rw [h]
section
variable {κ : Kx} {G H : Hp}
theorem RDc.get {kvs : List (Key × V)} {ds : List (D × D)} (r : RDc κ G kvs ds) (k : Key) : match valV kvs k, dcG (kD k) ds with
    | some v, some d => Rp κ G v d
    | none, none => True
    | _, _ => False := by
  induction r with
  | nil => exact True.intro
  | @cons j v d r ds h t ih =>
    by_cases e : j = k
    · rw [valV_pos (p := (j, v)) e, dcG, if_pos (show (kD j).feq (kD k) = true by rw [kD_feq]; exact decide_eq_true e)]
      exact h
    · rw [valV_neg (p := (j, v)) e, dcG, if_neg (show ¬ (kD j).feq (kD k) = true by rw [kD_feq]; simpa using e)]
      exact ih
theorem RDc.any {kvs : List (Key × V)} {ds : List (D × D)} (r : RDc κ G kvs ds) (k : Key) : (kvs.any fun p => decide (p.1 = k)) = ds.any fun p => p.1.feq (kD k) := by
  induction r with
  | nil => rfl
  | @cons j v d r ds h t ih => rw [List.any_cons, List.any_cons, ih, kD_feq]
theorem RDc.put1 {kvs : List (Key × V)} {ds : List (D × D)} (r : RDc κ G kvs ds) (k : Key) {v : V} {d : D} (h : Rp κ G v d) : RDc κ G (kvs.map fun p => if p.1 = k then (p.1, v) else p) (ds.map fun p => if p.1.feq (kD k) = true then (p.1, d) else p) := by
  induction r with
  | nil => exact .nil
  | @cons j u e r ds h1 t ih =>
    rw [List.map_cons, List.map_cons]
    by_cases q : j = k
    · rw [if_pos (show (j, u).1 = k from q), if_pos (show (kD j).feq (kD k) = true by rw [kD_feq]; exact decide_eq_true q)]
      exact .cons h ih
    · rw [if_neg (show ¬ (j, u).1 = k from q), if_neg (show ¬ (kD j).feq (kD k) = true by rw [kD_feq]; simpa using q)]
      exact .cons h1 ih
theorem RDc.snoc {kvs : List (Key × V)} {ds : List (D × D)} (r : RDc κ G kvs ds) (k : Key) {v : V} {d : D} (h : Rp κ G v d) : RDc κ G (kvs ++ [(k, v)]) (ds ++ [(kD k, d)]) := by
  induction r with
  | nil => exact .cons h .nil
  | cons h1 t ih => exact .cons h1 ih
theorem RDc.put {kvs : List (Key × V)} {ds : List (D × D)} (r : RDc κ G kvs ds) (k : Key) {v : V} {d : D} (h : Rp κ G v d) : RDc κ G (putK kvs k v) (dcP (kD k) d ds) := by
  unfold putK dcP
  rw [← r.any k]
  split
  · exact r.put1 k h
  · exact r.snoc k h
theorem RDc.length {kvs : List (Key × V)} {ds : List (D × D)} (r : RDc κ G kvs ds) : kvs.length = ds.length := by
  induction r with
  | nil => rfl
  | cons _ _ ih => rw [List.length_cons, List.length_cons, ih]
theorem RDc.keys {kvs : List (Key × V)} {ds : List (D × D)} (r : RDc κ G kvs ds) : RpA κ G ((kvs.map Prod.fst).map kV) (ds.map Prod.fst) := by
  induction r with
  | nil => exact .nil
  | @cons k v d r ds h t ih =>
    refine .cons ?_ ih
    cases k with
    | inl i => exact .int i
    | inr x =>
      have := Rp.str (κ := κ) (G := G) x.cps.toList
      rw [show S x.cps.toList = x from S_list x] at this
      exact this
end
/-- {} -/
def fDNew : Sm Rs := fun e => some (.ok (.tr (.dc [])) e)
/-- d[m] -/
def fDGet (i : Nat) (m : Sm D) : Sm D := fun env => match env[i]? with
  | some (.tr (.dc _)) => bnd m (fun k e => match e[i]? with
    | some (.tr (.dc l)) => if k.key = true then match dcG k l with
      | some d => some (.ok d e)
      | none => none else none
    | _ => none) env
  | _ => none
/-- d[mk] = m -/
def sDPutV (i : Nat) (mk m : Sm D) : Ss := sbnd m fun d env => match env[i]? with
  | some (.tr (.dc _)) => sbnd mk (fun k e => match e[i]? with
    | some (.tr (.dc l)) => if k.key = true ∧ l.length < szl then some (.nx (e.set i (.tr (.dc (dcP k d l))))) else none
    | _ => none) env
  | _ => none
/-- d.setdefault(mk, m) -/
def fDSet (i : Nat) (mk m : Sm D) : Sm D := fun env => match env[i]? with
  | some (.tr (.dc _)) => bnd mk (fun k => bnd m fun d e => match e[i]? with
    | some (.tr (.dc l)) => if k.key = true ∧ l.length < szl then match dcG k l with
      | some x => some (.ok x e)
      | none => some (.ok d (e.set i (.tr (.dc (dcP k d l)))))
      else none
    | _ => none) env
  | _ => none
section
variable {X : Cx} {κ : Kx} {W : WX} {e a b : Expr} {m mk : Sm D} {pos pos' p2 : Pos}
end
/-! ### range with a step -/
def rngC (lo c : Int) (n : Nat) : List D := (List.range n).map fun (k : Nat) => D.int (lo + (k : Int) * c)
def fRg3 (m : Sm (List D)) : Sm (List D) := bnd m fun ds e => match ds with
  | [.int i, .int j, .int c] => if (j ≤ 1000000 ∧ -1000000 ≤ j) ∧ (i ≤ 1000000 ∧ -1000000 ≤ i) ∧ 0 < c ∧ c ≤ 1000000 then some (.ok (rngC i c ((j - i + c - 1) / c).toNat) e) else none
  | _ => none
section
variable {X : Cx} {κ : Kx} {W : WX} {a b c : Expr} {tg : Expr} {p pos : Pos} {ms : Sm (List D)}
theorem RBs.three {κ : Kx} {H G : Hp} {vs : List V} {d e f : D} (r : RBs κ H G [true, true, true] vs [d, e, f]) : ∃ v u w, vs = [v, u, w] ∧ RBq κ H G v d ∧ RBq κ H G u e ∧ RBq κ H G w f := by
  cases r with
  | bo r t =>
    obtain ⟨u, w, rfl, r2, r3⟩ := t.two
    exact ⟨_, _, _, rfl, r, r2, r3⟩
end
end Vs


set_option Elab.async false
set_option linter.all false
set_option maxRecDepth 100000
set_option maxHeartbeats 2000000
/-! Vp: comprehensions whose items are own lists: the new list holds own lists. -/
namespace Vs
open PySem PySem.Spec PyProof.Rows L2
section
variable {κ : Kx} {H H' : Hp} {G G' : Gh} {σ σ' : L2.St} {env env' : En} {L : Addr}
/-- the list that is made, of own lists -/
structure DO (κ : Kx) (H : Hp) (G : Gh) (env : En) (N : Addr → Prop) (L : Addr) (F : List Addr) (acc : List Fd) (xs : List V) : Prop where
  h : H L = some (.lst xs)
  g : G.g L = none
  f : Fre G env L
  r : RFs κ H G xs acc F
  n : L ∉ F
  o : ∀ a, a ∈ F → Fre G env a ∧ N a
theorem DO.keep {N : Addr → Prop} {F : List Addr} {acc : List Fd} {xs : List V} (r : Rep κ H G σ env) (r' : Rep κ H' G' σ' env') (d : DO κ H G env N L F acc xs) (s : Grw H H') (f : Fr H G σ env H' G' σ' env') : DO κ H' G' env' N L F acc xs :=
  ⟨s.at d.h, f.gn L _ d.h d.g d.f.mt, d.f.keep r r' f d.h d.g, d.r.grow f.gk (fun a o m e => s.at e (d.r.pl m e).1) (fun a m => by
    obtain ⟨⟨o, h⟩, g⟩ := d.r.own m
    exact f.gn a o h g (d.o a m).1.mt), d.n, fun a m => by
    obtain ⟨⟨o, h⟩, g⟩ := d.r.own m
    exact ⟨(d.o a m).1.keep r r' f h g, (d.o a m).2⟩⟩
end
def lcLO (f : D → En → Option En) (tt : Sm Bool) (te : Sm Rs) (vs : List Nat) : List D → List Fd → Sm Rs
  | [], acc, e => some (.ok (.tr (.sq false acc)) e)
  | d :: ds, acc, e => match f d e with
    | none => none
    | some e1 => match tt e1 with
      | some (.ok true e2) => match te e2 with
        | some (.ok (.sh y) e3) => lcLO f tt te vs ds (acc ++ [.sh y]) (unE vs e3)
        | some (.ok (.ow y) e3) => lcLO f tt te vs ds (acc ++ [.ow y]) (unE vs e3)
        | _ => none
      | some (.ok false e2) => lcLO f tt te vs ds acc (unE vs e2)
      | _ => none
def fLcO (mi : Sm (List D)) (f : D → En → Option En) (tt : Sm Bool) (te : Sm Rs) (vs : List Nat) : Sm Rs := bnd mi fun ds e => if ds.length ≤ szl then lcLO f tt te vs ds [] (unE vs e) else none
section
variable {X : Cx} {κ : Kx} {W : WX}
variable {elt tg iter : Expr} {ifs : List Expr} {scope : Scope} {own : List (Str × Nat)} {pos spos py : Pos} {g : TG} {mi : Sm (List D)} {f : D → En → Option En} {tt : Sm Bool} {te : Sm Rs} {vs : List Nat}
end
/-! ### d.setdefault(k, v); list(d) -/
section
variable {X : Cx} {κ : Kx} {W : WX} {e a : Expr} {m mk : Sm D} {pos pos' apos : Pos}
/-- list(d) -/
def fDKeys (i : Nat) : Sm Rs := fun env => match env[i]? with
  | some (.tr (.dc l)) => some (.ok (.ow (l.map Prod.fst)) env)
  | _ => none
end
end Vs


set_option Elab.async false
set_option linter.all false
set_option maxRecDepth 100000
set_option maxHeartbeats 2000000
/-! Vq: [(k, d[k]) for k in d] of an own dict. -/
namespace Vs
open PySem PySem.Spec PyProof.Rows L2
def DIv (H0 : Hp) (D : Addr) (kvs : List (Key × V)) (k : Nat) (H' : Hp) (Ts : List Addr) : Prop :=
  Ts.length = k ∧ H' D = some (.lst (Ts.map V.ref)) ∧ (∀ a o, H0 a = some o → H' a = some o) ∧ ∀ (n : Nat) (T : Addr), Ts[n]? = some T → ∃ key v w, kvs[n]? = some (key, v) ∧ valV kvs key = some w ∧ H' T = some (.tup [kV key, w]) ∧ H0 T = none ∧ T ≠ D
def fDItems (i j : Nat) : Sm Rs := fun env => match env[i]? with
  | some (.tr (.dc l)) => if i ≠ j ∧ j < env.length ∧ l.length < szl then some (.ok (.ow (l.map fun p => D.tup [p.1, (dcG p.1 l).getD .non])) env) else none
  | _ => none
section
variable {X : Cx} {κ : Kx} {W : WX} {tg e : Expr} {scope : Scope} {own : List (Str × Nat)} {pos p1 p2 p3 p4 p5 p7 : Pos} {x v : Str} {kk : Nat} {i j : Nat}
end
end Vs


set_option Elab.async false
set_option linter.all false
set_option maxRecDepth 100000
set_option maxHeartbeats 2000000
/-! Vr: sorted(xs) of data without key; own lists put into an own list; a loop that only looks at an own list's items. -/
namespace Vs
open PySem PySem.Spec PyProof.Rows L2
/-! ### sorted(xs), data -/
def rSortDt (K : PySem.W.Frag) : List V → Hp → VK → Prop := fun vs H Q => ∃ (a : Addr) (xs : List V) (kz : List PyData), vs = [V.ref a] ∧ SqL K H a xs ∧ DpAll K H xs kz ∧ kz.length = xs.length ∧ PySem.W.AllAlike kz ∧ PySem.W.Sortable kz ∧ (∀ d, d ∈ kz → d.depth ≤ 64) ∧
  ∀ p, H p = none → Q (.ref p) (upd H p (.lst ((sortP (xs.zip kz)).map Prod.fst)))
noncomputable def opSortT : List D → Option Rs
  | [.lst l] => match opSort some l with
    | some r => some (.ow r)
    | none => none
  | _ => none
/-! ### > over data -/
def rGtD (K : PySem.W.Frag) : R2 := fun x y H Q => ∃ d e, Dp K H x d ∧ Dp K H y e ∧ PySem.W.alike d e = true ∧ d ≠ .none ∧ d.depth ≤ 64 ∧ Q (.bl (PySem.W.dataLt e d)) H
def dGt (x y : D) : Option Bool := if x.pl = true ∧ y.pl = true ∧ PySem.W.alike x.toP y.toP = true ∧ x.toP.depth ≤ 64 then some (PySem.W.dataLt y.toP x.toP) else none
def cGtA : D → D → Option Bool
  | .int i, .int j => some (decide (j < i))
  | .str a, .str b => some (decide (b < a))
  | .lst a, .lst b => dGt (.lst a) (.lst b)
  | .tup a, .tup b => dGt (.tup a) (.tup b)
  | _, _ => none
def rGtA (κ : Kx) : R2 := fun x y H Q => rCm (fun i j => decide (j < i)) (fun a b => decide (b < a)) x y H Q ∨ rGtD κ.K x y H Q
/-! ### own lists put into an own list -/
def putL {α : Type} (xs : List α) (k : Nat) (v : α) : List α := if k < xs.length then xs.set k v else xs ++ [v]
section
variable {κ : Kx} {σ σ0 : L2.St} {H H1 H2 : Hp} {G G1 G2 : Gh} {env e1 e2 : En}
end
/-- x.append(e), x an own list that may hold own lists -/
def sAppQ (i : Nat) (m : Sm Rs) : Ss := fun e0 => match sqAt e0 i with
  | some (false, _) => sbnd m (fun r e => match sqAt e i, r.fd with
    | some (false, fs), some f => if fs.length < szl then some (.nx (e.set i (.tr (.sq false (setF fs fs.length f))))) else none
    | _, _ => none) e0
  | _ => none
/-- x[j] = e -/
def sSetQ (i : Nat) (mj : Sm D) (m : Sm Rs) : Ss := sbnd m fun r e0 => match sqAt e0 i, r.fd with
  | some (false, _), some f => sbnd mj (fun j e => match j, sqAt e i with
    | .int z, some (false, fs) => match ixN fs.length z with
      | some k => some (.nx (e.set i (.tr (.sq false (setF fs k f)))))
      | none => none
    | _, _ => none) e0
  | _, _ => none
section
variable {X : Cx} {κ : Kx} {W : WX} {e : Expr} {m : Sm Rs} {mj : Sm D} {pos pos' p2 : Pos}
end
/-! ### a loop that only looks at an own list's items -/
/-- for x in xs: if t: return d -/
def forTL (i j : Nat) (mt : Sm Bool) (d w : D) : List Fd → Ss
  | [], e => some (.nx e)
  | f :: fs, e => match mt ((e.set i (.sh w)).set j (.sh f.d)) with
    | some (.ok true _) => some (.rt (.sh d))
    | some (.ok false _) => forTL i j mt d w fs e
    | _ => none
def sForT (i j : Nat) (mt : Sm Bool) (d : D) : Ss := fun e => match sqAt e i, e[j]? with
  | some (false, fs), some .un => forTL i j mt d (.lst (fs.map Fd.d)) fs e
  | _, _ => none
section
variable {X : Cx} {κ : Kx} {W : WX} {e : Expr} {mt : Sm Bool} {pos pos' p2 p3 rp ip : Pos}
end
/-! ### x = [e for ..], e own lists -/
section
variable {X : Cx} {κ : Kx} {W : WX} {elt tg iter : Expr} {ifs : List Expr} {scope : Scope} {own : List (Str × Nat)} {pos spos py : Pos} {g : TG} {mi : Sm (List D)} {f : D → En → Option En} {tt : Sm Bool} {te : Sm Rs} {vs : List Nat}
end
/-! ### values of expressions that change something -/
section
variable {X : Cx} {κ : Kx} {W : WX} {a b o e : Expr} {rest : List Expr} {ma mb mo me : Sm D} {pos apos : Pos}
theorem i_cmp {op : CmpOp} {r : R2} {f : D → D → Option Bool} (ho : OpR X (compareOp op) r) (hs : OpB κ r f) (ha : PE X a (tI κ W (RP κ) ma)) (hb : PE X b (tI κ W (RP κ) mb)) (hm : behindInMarks op b = false) : PE X (.Compare a [op] [b] pos) (tI κ W (RP κ) (fOp (vB f) ma mb)) :=
  PE.imp (pe_cmpR ho ha hb hm) fun σ H Q ⟨G, env, r0, q⟩ => by
    refine bind_postI r0 q fun dx e1 x H1 G1 _ rp1 rx f1 q1 => ?_
    refine bind_postI rp1 q1 fun dy e2 y H2 G2 _ rp2 ry f2 q2 => ?_
    unfold vB at q2
    cases z : f dx dy with
    | none => rw [z] at q2; exact q2.elim
    | some w =>
      rw [z] at q2
      exact hs x y dx dy w H2 G2 _ z rp2.sub (.inl (Rp.mono f2.gk rx)) (.inl ry) (q2 (.bl w) H2 G2 rp2 (.bl w) Fr.refl)
end
end Vs


set_option Elab.async false
set_option linter.all false
set_option maxRecDepth 100000
set_option maxHeartbeats 2000000
/-! Vt: len(set(text)), letters that repeat. -/
namespace Vs
open PySem PySem.Spec PyProof.Rows L2
def ddS (acc : List Nat) (c : Nat) : List Nat := if c ∈ acc then acc else acc ++ [c]
/-- a text's letters, each once -/
def dd (l : List Nat) : List Nat := l.foldl ddS []
def one (c : Nat) : Str := ⟨#[c]⟩
section
variable {prog : Program} {w : World} {A : Around} {R : Result → Shared → Prop} {I : Addr} {fp wr : List Addr} {G : Array GenState → Array GenState → Prop} {n : Nat} {St : Nat → Shared → Prop}
end
section
variable {prog : Program} {w : World} {A : Around} {E : Value → Shared → Prop} {s : Shared}
end
/-- len(set(x)), x a text -/
def tLenTxt (ta : TE) : TE := fun σ H Q => ta σ H fun x H1 => ∃ w : Str, x = .str w ∧ w.cps.size ≤ 20 ∧ Q (.int (dd w.cps.toList).length) H1
section
variable {X : Cx}
end
/-- its function -/
def fLenS (m : Sm D) : Sm D := bnd m fun d e => match d with
  | .str w => if w.length ≤ 20 then some (.ok (.int ((dd w).length : Nat)) e) else none
  | _ => none
/-- a statement that is never reached: nothing is claimed of it -/
def sStuck : Ss := fun _ => none
theorem s_stuck {X : Cx} {κ : Kx} {W : WX} {st : Stmt} : PS X st (tS κ W sStuck) := ⟨fun _ _ _ _ _ _ h => by
  obtain ⟨_, _, _, q⟩ := h
  exact q.elim⟩
end Vs


set_option Elab.async false
set_option linter.all false
set_option maxRecDepth 100000
set_option maxHeartbeats 4000000
/-! Vm: plain lemmas about the functions that the reading gives. -/
namespace Vs
open PySem L2
theorem rng_len (lo : Int) (n : Nat) : (rng lo n).length = n := by simp [rng]
theorem rng_get {lo : Int} {n i : Nat} {d : D} (h : (rng lo n)[i]? = some d) : i < n ∧ d = .int (lo + (i : Int)) := by
  have hi : i < (rng lo n).length := (List.getElem?_eq_some_iff.mp h).1
  rw [rng_len] at hi
  unfold rng at h
  rw [List.getElem?_map, List.getElem?_range hi] at h
  cases h
  exact ⟨hi, rfl⟩
/-- a loop that may be left early -/
theorem forL_out {tg : D → En → Option En} {body : Ss} (P : Nat → En → Prop) (R : SO → Prop) : ∀ (ds : List D) (k : Nat) (e : En), P k e →
    (∀ i d e, ds[i]? = some d → P (k + i) e → ∃ e1, tg d e = some e1 ∧ ∃ o, body e1 = some o ∧ match o with
      | .nx e2 => P (k + i + 1) e2
      | .ct e2 => P (k + i + 1) e2
      | .bk e2 => R (.nx e2)
      | o => R o) → (∀ e, P (k + ds.length) e → R (.nx e)) → ∃ o, forL tg body ds e = some o ∧ R o
  | [], k, e, h, _, hd => ⟨_, rfl, hd e h⟩
  | d :: ds, k, e, h, hs, hd => by
    obtain ⟨e1, h1, o, h2, h3⟩ := hs 0 d e rfl h
    have step : ∀ e2, P (k + 1) e2 → ∃ o, forL tg body ds e2 = some o ∧ R o := fun e2 h4 =>
      forL_out P R ds (k + 1) e2 h4 (fun i d' e' q p => by
        have := hs (i + 1) d' e' (by simpa using q) (by rw [show k + (i + 1) = k + 1 + i by omega]; exact p)
        rw [show k + (i + 1) = k + 1 + i by omega] at this
        exact this) fun e' p => hd e' (by rw [List.length_cons, show k + (ds.length + 1) = k + 1 + ds.length by omega]; exact p)
    dsimp only [forL]
    rw [h1]
    dsimp only
    rw [h2]
    cases o with
    | nx e2 => exact step e2 h3
    | ct e2 => exact step e2 h3
    | bk e2 => exact ⟨_, rfl, h3⟩
    | rt r => exact ⟨_, rfl, h3⟩
    | rv r e2 => exact ⟨_, rfl, h3⟩
    | ex x e2 => exact ⟨_, rfl, h3⟩
/-- a loop that runs through -/
theorem forL_inv {tg : D → En → Option En} {body : Ss} (P : Nat → En → Prop) (ds : List D) (e : En) (h : P 0 e)
    (hs : ∀ i d e, ds[i]? = some d → P i e → ∃ e1, tg d e = some e1 ∧ ∃ e2, body e1 = some (.nx e2) ∧ P (i + 1) e2) : ∃ e', forL tg body ds e = some (.nx e') ∧ P ds.length e' := by
  obtain ⟨o, h1, e', h2, h3⟩ := forL_out P (fun o => ∃ e', o = .nx e' ∧ P ds.length e') ds 0 e h (fun i d e q p => by
    obtain ⟨e1, g1, e2, g2, g3⟩ := hs i d e q (by simpa using p)
    exact ⟨e1, g1, _, g2, by simpa using g3⟩) fun e p => ⟨e, rfl, by simpa using p⟩
  subst h2
  exact ⟨e', h1, h3⟩
theorem atI_of {α : Type} (l : List α) {i : Int} (h : 0 ≤ i) : atI l i = l[i.toNat]? := by
  unfold atI ixN
  rw [if_pos h]
  by_cases q : i < l.length
  · rw [if_pos q]
    rfl
  · rw [if_neg q]
    symm
    show l[i.toNat]? = none
    rw [List.getElem?_eq_none_iff]
    omega
theorem sIx_pos (n d : Nat) {i : Int} (h : 0 ≤ i) : HT.sIx n d (some i) = min i.toNat n := by
  show (if i < 0 then (i + (n : Int)).toNat else min i.toNat n) = min i.toNat n
  rw [if_neg (by omega)]
theorem cutL_take {α : Type} (l : List α) {i : Int} (h : 0 ≤ i) : cutL l none (some i) = l.take i.toNat := by
  unfold cutL
  rw [HT.sIx_none, sIx_pos _ _ h, List.drop_zero, Nat.sub_zero]
  by_cases q : i.toNat ≤ l.length
  · rw [Nat.min_eq_left q]
  · rw [Nat.min_eq_right (by omega), List.take_length, List.take_of_length_le (by omega)]
theorem cutL_drop {α : Type} (l : List α) {i : Int} (h : 0 ≤ i) : cutL l (some i) none = l.drop i.toNat := by
  unfold cutL
  rw [HT.sIx_none, sIx_pos _ _ h]
  by_cases q : i.toNat ≤ l.length
  · rw [Nat.min_eq_left q, List.take_of_length_le (by rw [List.length_drop]; omega)]
  · rw [Nat.min_eq_right (by omega), List.drop_length, List.drop_of_length_le (by omega)]
    simp
theorem cutL_mid {α : Type} (l : List α) {i j : Int} (h : 0 ≤ i) (h2 : 0 ≤ j) : cutL l (some i) (some j) = (l.drop i.toNat).take (j.toNat - i.toNat) := by
  unfold cutL
  rw [sIx_pos _ _ h, sIx_pos _ _ h2]
  by_cases q : i.toNat ≤ l.length
  · rw [Nat.min_eq_left q]
    by_cases q2 : j.toNat ≤ l.length
    · rw [Nat.min_eq_left q2]
    · rw [Nat.min_eq_right (show l.length ≤ j.toNat by omega), List.take_of_length_le (by rw [List.length_drop]; omega), List.take_of_length_le (by rw [List.length_drop]; omega)]
  · rw [Nat.min_eq_right (show l.length ≤ i.toNat by omega), List.drop_length, List.drop_of_length_le (by omega)]
    simp
mutual
theorem eqv_self : ∀ d : D, PyData.eqv d.toP d.toP = true
  | .non => by simp [D.toP, PyData.eqv]
  | .bl b => by simp [D.toP, PyData.eqv]
  | .int i => by simp [D.toP, PyData.eqv]
  | .str w => by simp [D.toP, PyData.eqv]
  | .lst l => by simp only [D.toP, PyData.eqv, eqvA_self l]
  | .tup l => by simp only [D.toP, PyData.eqv, eqvA_self l]
  | .ob _ _ => by simp [D.toP, PyData.eqv]
  | .scr _ => by simp [D.toP, PyData.eqv]
  | .xn _ _ => by simp [D.toP, PyData.eqv]
theorem eqvA_self : ∀ l : List D, PyData.eqvAll (toPA l) (toPA l) = true
  | [] => by simp [toPA, PyData.eqvAll]
  | d :: l => by simp only [toPA, PyData.eqvAll, eqv_self d, eqvA_self l, Bool.and_self]
end
/-- .. that raises at the first of some kind -/
theorem forL_findX {β J : Type} {tg : D → En → Option En} {body : Ss} (enc : J → En) (toD : β → D) (p : β → Bool) (res : β → Ex) : ∀ (w : List β) (j : J),
    (∀ b ∈ w, ∀ j, ∃ e1, tg (toD b) (enc j) = some e1 ∧ ((p b = true ∧ ∃ j', body e1 = some (.ex (res b) (enc j'))) ∨ (p b = false ∧ ∃ j', body e1 = some (.nx (enc j'))))) →
    (∃ b, w.find? p = some b ∧ b ∈ w ∧ ∃ j', forL tg body (w.map toD) (enc j) = some (.ex (res b) (enc j'))) ∨ (w.find? p = none ∧ ∃ j', forL tg body (w.map toD) (enc j) = some (.nx (enc j')))
  | [], j, _ => .inr ⟨rfl, j, rfl⟩
  | b :: w, j, hs => by
    obtain ⟨e1, h1, h2⟩ := hs b List.mem_cons_self j
    rcases h2 with ⟨hp, j1, h2⟩ | ⟨hp, j1, h2⟩
    · refine .inl ⟨b, by rw [List.find?_cons_of_pos hp], List.mem_cons_self, j1, ?_⟩
      rw [List.map_cons]
      dsimp only [forL]
      rw [h1]
      dsimp only
      rw [h2]
    · have step : ∀ o, forL tg body (w.map toD) (enc j1) = o → forL tg body ((b :: w).map toD) (enc j) = o := fun o q => by
        rw [List.map_cons]
        dsimp only [forL]
        rw [h1]
        dsimp only
        rw [h2]
        exact q
      rcases forL_findX enc toD p res w j1 fun b' m => hs b' (List.mem_cons_of_mem _ m) with ⟨b', q1, q2, j2, q3⟩ | ⟨q1, j2, q3⟩
      · exact .inl ⟨b', by rw [List.find?_cons_of_neg (by rw [hp]; exact Bool.false_ne_true)]; exact q1, List.mem_cons_of_mem _ q2, j2, step _ q3⟩
      · exact .inr ⟨by rw [List.find?_cons_of_neg (by rw [hp]; exact Bool.false_ne_true)]; exact q1, j2, step _ q3⟩
/-- a comprehension without a test -/
theorem lcL_fun {β J : Type} {f : D → En → Option En} {te : Sm D} {vs : List Nat} (enc : J → En) (toD : β → D) (g : β → D) : ∀ (w : List β) (acc : List D) (j : J),
    (∀ b ∈ w, ∀ j, ∃ e1, f (toD b) (enc j) = some e1 ∧ ∃ e3, te e1 = some (.ok (g b) e3) ∧ ∃ j', unE vs e3 = enc j') →
    ∃ j', lcL f tYs te vs (w.map toD) acc (enc j) = some (.ok (.ow (acc ++ w.map g)) (enc j'))
  | [], acc, j, _ => ⟨j, by simp [lcL]⟩
  | b :: w, acc, j, hs => by
    obtain ⟨e1, h1, e3, h2, j1, h3⟩ := hs b List.mem_cons_self j
    obtain ⟨j', h4⟩ := lcL_fun enc toD g w (acc ++ [g b]) j1 fun b' m => hs b' (List.mem_cons_of_mem _ m)
    refine ⟨j', ?_⟩
    rw [List.map_cons]
    dsimp only [lcL]
    rw [h1]
    dsimp only
    rw [show tYs e1 = some (.ok true e1) from rfl]
    dsimp only
    rw [h2]
    dsimp only
    rw [h3, h4, List.append_assoc]
    rfl
/-! step by step -/
def fin : Option SO → Option FO
  | some (.nx _) => some (.rt (.sh .non))
  | some (.rt r) => some (.rt r)
  | some (.ex x _) => some (.ex x)
  | _ => none
theorem run_fin {ms : List Bool} {k : Nat} {body : Ss} {ds : List D} {r : Option FO} (h : fin (body (inis ms ds ++ List.replicate k .un)) = r) : runDef ms k body ds = r := by
  unfold runDef
  rw [← h]
  unfold fin
  cases body (inis ms ds ++ List.replicate k .un) with
  | none => rfl
  | some o => cases o <;> rfl
theorem fin_seq {m n : Ss} {e e1 : En} {r : Option FO} (h : m e = some (.nx e1)) (k : fin (n e1) = r) : fin (sSeq m n e) = r := by
  unfold sSeq
  rw [h]
  exact k
theorem seq_nx {m n : Ss} {e e1 : En} {r : Option SO} (h : m e = some (.nx e1)) (k : n e1 = r) : sSeq m n e = r := by
  unfold sSeq
  rw [h]
  exact k
/-- a loop that only goes on -/
theorem forL_each {β J : Type} {tg : D → En → Option En} {body : Ss} (enc : J → En) (toD : β → D) : ∀ (w : List β) (j : J), (∀ b ∈ w, ∀ j, ∃ e1, tg (toD b) (enc j) = some e1 ∧ ∃ j', body e1 = some (.nx (enc j')) ∨ body e1 = some (.ct (enc j'))) → ∃ j', forL tg body (w.map toD) (enc j) = some (.nx (enc j'))
  | [], j, _ => ⟨j, rfl⟩
  | b :: w, j, h => by
    obtain ⟨e1, h1, j1, h2⟩ := h b List.mem_cons_self j
    obtain ⟨j', h3⟩ := forL_each enc toD w j1 fun c m => h c (List.mem_cons_of_mem _ m)
    refine ⟨j', ?_⟩
    rw [List.map_cons]
    dsimp only [forL]
    rw [h1]
    dsimp only
    rcases h2 with h2 | h2
    · rw [h2]
      exact h3
    · rw [h2]
      exact h3
end Vs


set_option Elab.async false
set_option linter.all false
set_option maxRecDepth 100000
set_option maxHeartbeats 4000000
namespace Lw
open PySem L2 Vs
noncomputable section
def c_SMALL : List Nat := [97, 98, 99, 100, 101, 102, 103, 104, 105, 106, 107, 108, 109, 110, 111, 112, 113, 114, 115, 116, 117, 118, 119, 120, 121, 122]
def c_FIGURES : List Nat := [48, 49, 50, 51, 52, 53, 54, 55, 56, 57]
abbrev fuel : Nat := 10000000000000000000000000000000000000000
theorem lt_fuel {m : Nat} (h : m < 100000) : m < fuel := by unfold fuel; omega
abbrev cl_System : Nat := 0
abbrev cl_Order : Nat := 1
abbrev cl_FromRight : Nat := 2
abbrev cl_ByWeights : Nat := 3
abbrev cl_Desk : Nat := 4
abbrev x_LetterError : Nat := 0
abbrev x_NoLetters : Nat := 1
abbrev x_NoWord : Nat := 2
abbrev x_NoPact : Nat := 3
abbrev x_NoOrder : Nat := 4
abbrev x_NoUse : Nat := 5
abbrev x_NotTurned : Nat := 6
abbrev x_TooFar : Nat := 7
abbrev x_TooMany : Nat := 8
abbrev x_NoRow : Nat := 9
def xs : Nat → Nat → Option Bool
  | 0, 0 => some true
  | 1, 0 => some true
  | 2, 0 => some true
  | 3, 0 => some true
  | 4, 0 => some true
  | 5, 0 => some true
  | 6, 0 => some true
  | 7, 0 => some true
  | 8, 0 => some true
  | 9, 0 => some true
  | _, _ => none
def ks : Nat → Nat → Option Bool
  | 0, 8 => some false
  | 0, 9 => some false
  | 0, 4 => some false
  | 0, 2 => some false
  | 1, 8 => some false
  | 1, 9 => some false
  | 1, 4 => some false
  | 1, 2 => some false
  | 2, 8 => some false
  | 2, 9 => some false
  | 2, 4 => some false
  | 2, 2 => some true
  | 3, 8 => some false
  | 3, 9 => some false
  | 3, 4 => some false
  | 3, 2 => some false
  | 4, 8 => some false
  | 4, 9 => some false
  | 4, 4 => some true
  | 4, 2 => some false
  | 5, 8 => some false
  | 5, 9 => some false
  | 5, 4 => some false
  | 5, 2 => some false
  | 6, 8 => some false
  | 6, 9 => some false
  | 6, 4 => some false
  | 6, 2 => some false
  | 7, 8 => some false
  | 7, 9 => some false
  | 7, 4 => some false
  | 7, 2 => some false
  | 8, 8 => some true
  | 8, 9 => some false
  | 8, 4 => some false
  | 8, 2 => some false
  | 9, 8 => some false
  | 9, 9 => some true
  | 9, 4 => some false
  | 9, 2 => some false
  | 0, 2202 => some false
  | 1, 2202 => some false
  | 2, 2202 => some true
  | 3, 2202 => some false
  | 4, 2202 => some true
  | 5, 2202 => some false
  | 6, 2202 => some false
  | 7, 2202 => some false
  | 8, 2202 => some false
  | 9, 2202 => some false
  | _, _ => none
def xf : Nat → Option Str
  | 2 => some "place"
  | 5 => some "at"
  | 6 => some "number"
  | _ => none
def fld_order : Nat → Option Nat
  | 0 => some 0
  | 4 => some 0
  | _ => none
def fld_pacts : Nat → Option Nat
  | 4 => some 1
  | _ => none
def fld_letters : Nat → Option Nat
  | 1 => some 0
  | 2 => some 0
  | 3 => some 0
  | _ => none
def fld_weights : Nat → Option Nat
  | 3 => some 1
  | _ => none
def b_Desk_init : Ss := sSeq (sFldS 0 fld_order (shm (eC .non))) (sFldS 0 fld_pacts (fLst (aNil)))
def g_Desk_init : FSemI := runDefI 0 [] 0 b_Desk_init
def b_law_letters : Ss := sSeq (sAsg 2 (shm (eC (.str [97, 98, 99, 100, 101, 102, 103, 104, 105, 106, 107, 108, 109, 110, 111, 112, 113, 114, 115, 116, 117, 118, 119, 120, 121, 122])))) (sSeq (sAsg 3 (fOp opAdd (eC (.int 1)) (frz (fOp opMod (eB 0) (eB 1))))) (sSeq (sAsg 4 (fOp opMod (frz (fOp opDiv (eB 0) (eB 1))) (eC (.int 26)))) (sSeq (sAsg 5 (fOp opAdd (eC (.int 1)) (frz (fOp opMul (eC (.int 2)) (frz (fOp opMod (frz (fOp opDiv (eB 0) (eC (.int 157)))) (eC (.int 6)))))))) (sRet (fM1 opJoin (eC (.str [])) (frz (fLc (fRg1 (aCons (eB 3) (aNil))) (tgN 6) (tYs) (fOp opIx (eB 2) (frz (fOp opMod (frz (fOp opAdd (eB 4) (frz (fOp opMul (eB 5) (eB 6))))) (eC (.int 26))))) [6])))))))
def g_law_letters : FSem := runDef [true, true] 5 b_law_letters
def i1_law_cell_at : Ss := sIf (fOp cLtA (eB 1) (frz (fCl opLen (aCons (eB 0) (aNil))))) (sRet (shm (fOp opIx (eB 0) (eB 1)))) (sNil)
def b_law_cell_at : Ss := sSeq (i1_law_cell_at) (sRet (shm (eC (.int 0))))
def g_law_cell_at : FSem := runDef [true, true] 0 b_law_cell_at
def i1_letters_of : Ss := sIf (fOr (fOp cLtA (frz (fCl opLen (aCons (eB 0) (aNil)))) (eC (.int 1))) (fOp cGt (frz (fCl opLen (aCons (eB 0) (aNil)))) (eC (.int 6)))) (fRaise0 x_NoLetters) (sNil)
def i2_letters_of : Ss := sIf (fOr (fOp cNinA (fOp opIx (eB 0) (eB 1)) (eC (.str c_SMALL))) (fOp cInA (fOp opIx (eB 0) (eB 1)) (frz (fSl (eB 0) (poN) (poS (eB 1)))))) (fRaise0 x_NoLetters) (sNil)
def l1_letters_of : Ss := i2_letters_of
def b_letters_of : Ss := sSeq (i1_letters_of) (sSeq (sFor (fRg1 (aCons (frz (fCl opLen (aCons (eB 0) (aNil)))) (aNil))) (tgN 1) l1_letters_of) (sRetV 0))
def g_letters_of : FSem := runDef [false] 1 b_letters_of
def b_Order_init : Ss := sFldS 0 fld_letters (shm (frz (fCall g_letters_of (aCons (eV 1) (aNil)))))
def g_Order_init : FSemI := runDefI 0 [false] 0 b_Order_init
def b_Desk_letters_row : Ss := sSeq (sFldS 0 fld_order (shm (frz (shm (frz (fMake 1 g_Order_init (aCons (frz (fCall g_letters_of (aCons (frz (fSl (eB 1) (poS (eC (.int 8))) (poN))) (aNil)))) (aNil)))))))) (sSeq (sFldS 0 fld_pacts (fLst (aNil))) (sRetI (shm (eV 1))))
def g_Desk_letters_row : FSemI := runDefI 0 [false] 0 b_Desk_letters_row
def i1_weight_of : Ss := sIf (fOr (fNot (fCh cLeA cLeA (eC (.int 1)) (frz (fCl opLen (aCons (eB 0) (aNil)))) (eC (.int 7)))) (fOp cEq (fOp opIx (eB 0) (eC (.int 0))) (eC (.str [48])))) (fRaise0 x_NoOrder) (sNil)
def i2_weight_of : Ss := sIf (fOp cNinA (eB 1) (eC (.str c_FIGURES))) (fRaise0 x_NoOrder) (sNil)
def l1_weight_of : Ss := i2_weight_of
def b_weight_of : Ss := sSeq (i1_weight_of) (sSeq (sLock 0 (sFor (eItA 0) (tgN 1) l1_weight_of)) (sRet (fCl opInt (aCons (eB 0) (aNil)))))
def g_weight_of : FSem := runDef [true] 1 b_weight_of
def i1_ByWeights_init : Ss := sIf (fOp cNe (frz (fCl opLen (aCons (eB 2) (aNil)))) (frz (fCl opLen (aCons (eFB 0 fld_letters) (aNil))))) (fRaise0 x_NoOrder) (sNil)
def i2_ByWeights_init : Ss := sIf (fOr (fOp cLtA (eB 3) (eC (.int 1))) (fOp cGt (eB 3) (eC (.int 1000000)))) (fRaise0 x_NoOrder) (sNil)
def l1_ByWeights_init : Ss := i2_ByWeights_init
def b_ByWeights_init : Ss := sSeq (sDrop (fCallI 0 g_Order_init (aHere 0 (aCons (eV 1) (aNil))))) (sSeq (i1_ByWeights_init) (sSeq (sLock 2 (sFor (eItA 2) (tgN 3) l1_ByWeights_init)) (sFldS 0 fld_weights (shm (frz (fCl opList (aCons (eB 2) (aNil))))))))
def g_ByWeights_init : FSemI := runDefI 0 [false, true] 1 b_ByWeights_init
def i1_Desk_order_row : Ss := sIf (fTru (frz (fM1 opStarts (eB 1) (eC (.str [111, 114, 100, 101, 114, 32, 119, 101, 105, 103, 104, 116, 115, 32]))))) (sSeq (sAsg 2 (fLc (fItA (frz (fM1 opSplit (frz (fSl (eB 1) (poS (eC (.int 14))) (poN))) (eC (.str [32]))))) (tgN 3) (tYs) (frz (fCall g_weight_of (aCons (eB 3) (aNil)))) [3])) (sFldS 0 fld_order (shm (frz (shm (frz (fMake 3 g_ByWeights_init (aCons (fFld fld_letters (eFV 0 fld_order)) (aCons (eB 2) (aNil)))))))))) (fRaise0 x_NoRow)
def i2_Desk_order_row : Ss := sIf (fOp cEq (eB 1) (eC (.str [111, 114, 100, 101, 114, 32, 114, 105, 103, 104, 116]))) (sFldS 0 fld_order (shm (frz (shm (frz (fMake 2 g_Order_init (aCons (fFld fld_letters (eFV 0 fld_order)) (aNil)))))))) (i1_Desk_order_row)
def i3_Desk_order_row : Ss := sIf (fOp cEq (eB 1) (eC (.str [111, 114, 100, 101, 114, 32, 108, 101, 110, 103, 116, 104]))) (sFldS 0 fld_order (shm (frz (shm (frz (fMake 1 g_Order_init (aCons (fFld fld_letters (eFV 0 fld_order)) (aNil)))))))) (i2_Desk_order_row)
def b_Desk_order_row : Ss := sSeq (i3_Desk_order_row) (sRetI (shm (eV 1)))
def g_Desk_order_row : FSemI := runDefI 0 [false] 2 b_Desk_order_row
def i1_word_of : Ss := sIf (fOr (fOp cGe (eB 3) (eB 2)) (fOp cNinA (fOp opIx (eB 1) (eB 3)) (eB 0))) (fRaise1 x_NoWord (eB 3)) (sNil)
def l1_word_of : Ss := i1_word_of
def b_word_of : Ss := sSeq (sFor (fRg1 (aCons (frz (fCl opLen (aCons (eB 1) (aNil)))) (aNil))) (tgN 3) l1_word_of) (sRetV 1)
def g_word_of : FSem := runDef [true, false, true] 1 b_word_of
def i1_read_word : Ss := sIf (fOp cEq (eB 1) (eC (.str [46]))) (sRet (shm (eC (.str [])))) (sNil)
def i2_read_word : Ss := sIf (fOp cEq (eB 1) (eC (.str []))) (fRaise1 x_NoWord (eC (.int 0))) (sNil)
def b_read_word : Ss := sSeq (i1_read_word) (sSeq (i2_read_word) (sRet (fCall g_word_of (aCons (eB 0) (aCons (eV 1) (aCons (eB 2) (aNil)))))))
def g_read_word : FSem := runDef [true, false, true] 0 b_read_word
def i1_read_pact : Ss := sIf (fOp cEq (fOp opIx (eB 3) (eC (.int 1))) (eC (.str []))) (fRaise0 x_NoPact) (sNil)
def b_read_pact : Ss := sSeq (sAsg 3 (fM1 opPart (eB 1) (eC (.str [32, 61, 32])))) (sSeq (i1_read_pact) (sSeq (sAsg 4 (fCall g_read_word (aCons (eB 0) (aCons (fOp opIx (eB 3) (eC (.int 0))) (aCons (eB 2) (aNil)))))) (sSeq (sAsg 5 (fCall g_read_word (aCons (eB 0) (aCons (fOp opIx (eB 3) (eC (.int 2))) (aCons (eB 2) (aNil)))))) (sRet (shm (fTup (aCons (eV 4) (aCons (eV 5) (aNil)))))))))
def g_read_pact : FSem := runDef [true, true, true] 3 b_read_pact
def i1_Desk_pact_row : Ss := sIf (fOp cGe (frz (fCl opLen (aCons (eFB 0 fld_pacts) (aNil)))) (eC (.int 8))) (fRaise0 x_TooMany) (sNil)
def b_Desk_pact_row : Ss := sSeq (sAsg 2 (fCall g_read_pact (aCons (fFld fld_letters (eFV 0 fld_order)) (aCons (frz (fSl (eB 1) (poS (eC (.int 5))) (poN))) (aCons (eC (.int 10)) (aNil)))))) (sSeq (i1_Desk_pact_row) (sSeq (sAppF 0 fld_pacts (eV 2)) (sRetI (fOp opAdd (eC (.str [112, 97, 99, 116, 32])) (frz (fCl opStr (aCons (frz (fOp opSub (frz (fCl opLen (aCons (eFB 0 fld_pacts) (aNil)))) (eC (.int 1)))) (aNil))))))))
def g_Desk_pact_row : FSemI := runDefI 0 [false] 1 b_Desk_pact_row
def i1_shown_word : Ss := sIf (fOp cEq (eB 0) (eC (.str []))) (sRet (shm (eC (.str [46])))) (sNil)
def b_shown_word : Ss := sSeq (i1_shown_word) (sRetV 0)
def g_shown_word : FSem := runDef [false] 0 b_shown_word
def b_shown_pact : Ss := sRet (fOp opAdd (frz (fOp opAdd (frz (fCall g_shown_word (aCons (fOp opIx (eB 0) (eC (.int 0))) (aNil)))) (eC (.str [32, 61, 32])))) (frz (fCall g_shown_word (aCons (fOp opIx (eB 0) (eC (.int 1))) (aNil)))))
def g_shown_pact : FSem := runDef [true] 0 b_shown_pact
def i1_Desk_drop_row : Ss := sIf (fNot (fTru (eFB 0 fld_pacts))) (fRaise0 x_NoRow) (sNil)
def b_Desk_drop_row : Ss := sSeq (i1_Desk_drop_row) (sRetI (fOp opAdd (eC (.str [112, 97, 99, 116, 32])) (frz (fCall g_shown_pact (aCons (fPopF 0 fld_pacts) (aNil))))))
def g_Desk_drop_row : FSemI := runDefI 0 [] 0 b_Desk_drop_row
def b_shown_step : Ss := sSeq (sAsg 1 (shm (fIf (fTru (fOp opIx (eB 0) (eC (.int 2)))) (eC (.str [62])) (eC (.str [60]))))) (sRet (fOp opAdd (frz (fOp opAdd (frz (fCl opStr (aCons (fOp opIx (eB 0) (eC (.int 0))) (aNil)))) (eB 1))) (frz (fCl opStr (aCons (fOp opIx (eB 0) (eC (.int 1))) (aNil))))))
def g_shown_step : FSem := runDef [true] 1 b_shown_step
def i1_shown_steps : Ss := sIf (fOp cEq (frz (fCl opLen (aCons (eB 0) (aNil)))) (eC (.int 0))) (sRet (shm (eC (.str [46])))) (sNil)
def b_shown_steps : Ss := sSeq (i1_shown_steps) (sRet (fM1 opJoin (eC (.str [32])) (frz (xLock 0 (fLc (eItA 0) (tgN 1) (tYs) (frz (fCall g_shown_step (aCons (eB 1) (aNil)))) [1])))))
def g_shown_steps : FSem := runDef [true] 1 b_shown_steps
def b_shown_entry : Ss := sRet (fOp opAdd (frz (fOp opAdd (frz (fCall g_shown_pact (aCons (fTup (aCons (fOp opIx (eB 0) (eC (.int 0))) (aCons (fOp opIx (eB 0) (eC (.int 1))) (aNil)))) (aNil)))) (eC (.str [32, 98, 121, 32])))) (frz (fCall g_shown_steps (aCons (fOp opIx (eB 0) (eC (.int 2))) (aNil)))))
def g_shown_entry : FSem := runDef [true] 0 b_shown_entry
def b_shown_entries : Ss := sRet (fM1 opJoin (eC (.str [])) (frz (xLock 0 (fLc (eItA 0) (tgN 1) (tYs) (frz (fOp opAdd (eC (.str [44, 32])) (frz (fCall g_shown_entry (aCons (eB 1) (aNil)))))) [1]))))
def g_shown_entries : FSem := runDef [true] 1 b_shown_entries
def i1_Desk_told : Ss := sIf (fTru (frz (fM1 opStarts (eB 1) (eC (.str [108, 101, 116, 116, 101, 114, 115, 32]))))) (sRetI (fMethI 0 4 g_Desk_letters_row (aCons (eV 1) (aNil)))) (sNil)
def i2_Desk_told : Ss := sIf (fOp cIsN (eFB 0 fld_order) (eC .non)) (fRaise0 x_NoRow) (sNil)
def i3_Desk_told : Ss := sIf (fTru (frz (fM1 opStarts (eB 1) (eC (.str [111, 114, 100, 101, 114, 32]))))) (sRetI (fMethI 0 4 g_Desk_order_row (aCons (eV 1) (aNil)))) (sNil)
def i4_Desk_told : Ss := sIf (fTru (frz (fM1 opStarts (eB 1) (eC (.str [112, 97, 99, 116, 32]))))) (sRetI (fMethI 0 4 g_Desk_pact_row (aCons (eV 1) (aNil)))) (sNil)
def i5_Desk_told : Ss := sIf (fOp cEq (eB 1) (eC (.str [100, 114, 111, 112]))) (sRetI (fMethI 0 4 g_Desk_drop_row aNil)) (sNil)
def i6_Desk_told : Ss := sIf (fOp cEq (eB 1) (eC (.str [114, 117, 108, 101, 115]))) (sSeq (sStuck) (sRetI (fOp opAdd (fIf (fTru (eB 2)) (eC (.str [119, 104, 111, 108, 101])) (eC (.str [111, 112, 101, 110]))) (frz (fCall g_shown_entries (aCons (eB 3) (aNil))))))) (sNil)
def i7_Desk_told : Ss := sIf (fTru (frz (fM1 opStarts (eB 1) (eC (.str [102, 111, 114, 109, 32]))))) (sStuck) (sNil)
def i8_Desk_told : Ss := sIf (fTru (frz (fM1 opStarts (eB 1) (eC (.str [97, 115, 107, 32]))))) (sStuck) (sNil)
def b_Desk_told : Ss := sSeq (i1_Desk_told) (sSeq (i2_Desk_told) (sSeq (i3_Desk_told) (sSeq (i4_Desk_told) (sSeq (i5_Desk_told) (sSeq (i6_Desk_told) (sSeq (i7_Desk_told) (sSeq (i8_Desk_told) (fRaise0 x_NoRow))))))))
def g_Desk_told : FSemI := runDefI 0 [false] 2 b_Desk_told
def b_law_mixed : Ss := sRet (fOp opMod (frz (fOp opMul (eB 0) (fOp opIx (fTup (aCons (eC (.int 48271)) (aCons (eC (.int 69621)) (aCons (eC (.int 40692)) (aCons (eC (.int 39373)) (aNil)))))) (eB 1)))) (fOp opIx (fTup (aCons (eC (.int 2147483647)) (aCons (eC (.int 2147483629)) (aCons (eC (.int 2147483587)) (aCons (eC (.int 2147483579)) (aNil)))))) (eB 1)))
def g_law_mixed : FSem := runDef [true, true] 0 b_law_mixed
def l1_law_word : Ss := sSeq (sAsg 4 (fOp opMod (frz (fOp opAdd (frz (fOp opMul (eB 4) (eC (.int 48271)))) (eC (.int 11)))) (eC (.int 2147483647)))) (sAsg 5 (fOp opAdd (eB 5) (fOp opIx (eB 1) (frz (fOp opMod (frz (fOp opDiv (eB 4) (eC (.int 64)))) (frz (fCl opLen (aCons (eB 1) (aNil)))))))))
def b_law_word : Ss := sSeq (sAsg 3 (fOp opMod (eB 0) (frz (fOp opAdd (eB 2) (eC (.int 1)))))) (sSeq (sAsg 4 (fOp opMod (frz (fOp opDiv (eB 0) (frz (fOp opAdd (eB 2) (eC (.int 1)))))) (eC (.int 2147483647)))) (sSeq (sAsg 5 (shm (eC (.str [])))) (sSeq (sFor (fRg1 (aCons (eB 3) (aNil))) (tgN 6) l1_law_word) (sRetV 5))))
def g_law_word : FSem := runDef [true, true, true] 4 b_law_word
def b_law_pact : Ss := sRet (shm (fTup (aCons (frz (fCall g_law_word (aCons (eB 0) (aCons (eB 1) (aCons (eB 2) (aNil)))))) (aCons (frz (fCall g_law_word (aCons (frz (fOp opMod (frz (fOp opMul (eB 0) (eC (.int 69621)))) (eC (.int 2147483629)))) (aCons (eB 1) (aCons (eB 2) (aNil)))))) (aNil)))))
def g_law_pact : FSem := runDef [true, true, true] 0 b_law_pact
def i1_law_shown : Ss := sIf (fOp cEq (eB 0) (eC (.str []))) (sRet (shm (eC (.str [46])))) (sNil)
def b_law_shown : Ss := sSeq (i1_law_shown) (sRetV 0)
def g_law_shown : FSem := runDef [false] 0 b_law_shown
def i1_law_row : Ss := sIf (fOr (fOp cEq (eB 2) (eC (.int 7))) (fOp cEq (eB 2) (eC (.int 8)))) (sRet (shm (eC (.str [100, 114, 111, 112])))) (sNil)
def i2_law_row : Ss := sIf (fOp cEq (eB 2) (eC (.int 9))) (sRet (shm (fOp opIx (fTup (aCons (eC (.str [111, 114, 100, 101, 114, 32, 108, 101, 110, 103, 116, 104])) (aCons (eC (.str [111, 114, 100, 101, 114, 32, 114, 105, 103, 104, 116])) (aNil)))) (frz (fOp opMod (frz (fOp opDiv (eB 0) (eC (.int 12)))) (eC (.int 2))))))) (sNil)
def i3_law_row : Ss := sIf (fOp cEq (eB 2) (eC (.int 10))) (sSeq (sAsg 3 (fLc (fRg1 (aCons (frz (fCl opLen (aCons (eB 1) (aNil)))) (aNil))) (tgN 6) (tYs) (frz (fCl opStr (aCons (frz (fOp opAdd (eC (.int 1)) (frz (fOp opMod (frz (fCall g_law_mixed (aCons (frz (fOp opAdd (eB 0) (eB 6))) (aCons (frz (fOp opMod (eB 6) (eC (.int 4)))) (aNil))))) (fOp opIx (fTup (aCons (eC (.int 9)) (aCons (eC (.int 1000000)) (aNil)))) (frz (fOp opMod (frz (fOp opDiv (eB 0) (eC (.int 12)))) (eC (.int 2))))))))) (aNil)))) [6])) (sRet (fOp opAdd (eC (.str [111, 114, 100, 101, 114, 32, 119, 101, 105, 103, 104, 116, 115, 32])) (frz (fM1 opJoin (eC (.str [32])) (eB 3)))))) (sNil)
def i4_law_row : Ss := sIf (fAnd (fOp cEq (eB 2) (eC (.int 11))) (fOp cEq (frz (fOp opMod (frz (fOp opDiv (eB 0) (eC (.int 12)))) (eC (.int 4)))) (eC (.int 1)))) (sRet (fOp opAdd (eC (.str [108, 101, 116, 116, 101, 114, 115, 32])) (frz (fCall g_law_letters (aCons (frz (fCall g_law_mixed (aCons (eB 0) (aCons (eC (.int 3)) (aNil))))) (aCons (eC (.int 6)) (aNil))))))) (sNil)
def b_law_row : Ss := sSeq (sAsg 2 (fOp opMod (eB 0) (eC (.int 12)))) (sSeq (i1_law_row) (sSeq (i2_law_row) (sSeq (i3_law_row) (sSeq (i4_law_row) (sSeq (sTg (tgT [4, 5]) (frz (fCall g_law_pact (aCons (frz (fOp opDiv (eB 0) (eC (.int 12)))) (aCons (eB 1) (aCons (eC (.int 10)) (aNil))))))) (sRet (fOp opAdd (frz (fOp opAdd (frz (fOp opAdd (eC (.str [112, 97, 99, 116, 32])) (frz (fCall g_law_shown (aCons (eV 4) (aNil)))))) (eC (.str [32, 61, 32])))) (frz (fCall g_law_shown (aCons (eV 5) (aNil)))))))))))
def g_law_row : FSem := runDef [true, true] 5 b_law_row
def y1_law_told : Ss := sAsg 2 (fMethI 0 4 g_Desk_told (aCons (eV 1) (aNil)))
def z1_law_told : Xo → Ss := fun o => sSeq (sAsg 2 (shm (fTup (aCons (fXi (fun c => ks c 9) o 3) (aCons (fXi (fun c => ks c 8) o 3) (aNil)))))) (sIf (fTru (fXi (fun c => ks c 2202) o 3)) (sAsg 2 (shm (fTup (aCons (eC (.bl false)) (aCons (eC (.bl false)) (aNil)))))) (sNil))
def b_law_told : Ss := sSeq (sAsg 2 (shm (eC .non))) (sSeq (sTryAs xs 0 3 y1_law_told z1_law_told) (sRetI (shm (eV 2))))
def g_law_told : FSemI := runDefI 0 [false] 2 b_law_told
def i1_law_due : Ss := sIf (fOp cEq (frz (fCl opLen (aCons (eB 1) (aNil)))) (eC (.int 0))) (sRet (shm (fTup (aCons (eC (.bl true)) (aCons (eC (.bl false)) (aNil)))))) (sNil)
def i2_law_due : Ss := sIf (fOp cEq (eB 0) (eC (.str [100, 114, 111, 112]))) (sSeq (i1_law_due) (sRet (shm (fOp opIx (eB 1) (fNeg (eC (.int 1))))))) (sNil)
def i3_law_due : Ss := sIf (fOp cEq (frz (fCl opLen (aCons (eB 1) (aNil)))) (eC (.int 8))) (sRet (shm (fTup (aCons (eC (.bl false)) (aCons (eC (.bl true)) (aNil)))))) (sNil)
def i4_law_due : Ss := sIf (fTru (frz (fM1 opStarts (eB 0) (eC (.str [112, 97, 99, 116, 32]))))) (sSeq (i3_law_due) (sRet (fOp opAdd (eC (.str [112, 97, 99, 116, 32])) (frz (fCl opStr (aCons (frz (fCl opLen (aCons (eB 1) (aNil)))) (aNil))))))) (sNil)
def b_law_due : Ss := sSeq (i2_law_due) (sSeq (i4_law_due) (sRetV 0))
def g_law_due : FSem := runDef [false, true] 0 b_law_due
def i1_law : Ss := sIf (fOp cNe (frz (fMethI 1 4 g_Desk_told (aCons (frz (fOp opAdd (eC (.str [108, 101, 116, 116, 101, 114, 115, 32])) (eB 2))) (aNil)))) (frz (fOp opAdd (eC (.str [108, 101, 116, 116, 101, 114, 115, 32])) (eB 2)))) (sRet (shm (eC (.bl false)))) (sNil)
def i2_law : Ss := sIf (fOp cNe (frz (fCallI 1 g_law_told (aHere 1 (aCons (eV 5) (aNil))))) (frz (fCall g_law_due (aCons (eV 5) (aCons (eB 3) (aNil)))))) (sRet (shm (eC (.bl false)))) (sNil)
def i3_law : Ss := sIf (fOp cEq (eB 5) (eC (.str [100, 114, 111, 112]))) (sAsg 3 (fSl (eB 3) (poN) (poS (fNeg (eC (.int 1)))))) (sNil)
def i4_law : Ss := sIf (fAnd (fTru (frz (fM1 opStarts (eB 5) (eC (.str [112, 97, 99, 116, 32]))))) (fOp cLtA (frz (fCl opLen (aCons (eB 3) (aNil)))) (eC (.int 8)))) (sApp 3 (eV 5)) (sNil)
def i5_law : Ss := sIf (fTru (frz (fM1 opStarts (eB 5) (eC (.str [108, 101, 116, 116, 101, 114, 115, 32]))))) (sSeq (sAsg 2 (fSl (eB 5) (poS (eC (.int 8))) (poN))) (sAsg 3 (fLst (aNil)))) (sNil)
def l1_law : Ss := sSeq (sAsg 5 (fCall g_law_row (aCons (eB 4) (aCons (eB 2) (aNil))))) (sSeq (i2_law) (sSeq (i3_law) (sSeq (i4_law) (i5_law))))
def i6_law : Ss := sIf (fOp cNe (frz (fCallI 1 g_law_told (aHere 1 (aCons (eC (.str [100, 114, 111, 112])) (aNil))))) (fPop0 3)) (sRet (shm (eC (.bl false)))) (sNil)
def l2_law : Ss := i6_law
def w2_law : Sm Bool := fOp cGt (frz (fCl opLen (aCons (eB 3) (aNil)))) (eC (.int 0))
def b_law : Ss := sSeq (sAsg 1 (fMake 4 g_Desk_init aNil)) (sSeq (sAsg 2 (fCall g_law_letters (aCons (frz (fCall g_law_cell_at (aCons (eB 0) (aCons (eC (.int 0)) (aNil))))) (aCons (eC (.int 6)) (aNil))))) (sSeq (i1_law) (sSeq (sAsg 3 (fLst (aNil))) (sSeq (sFor (fItA (frz (fSl (eB 0) (poS (eC (.int 1))) (poS (eC (.int 63)))))) (tgN 4) l1_law) (sSeq (whL fuel w2_law l2_law) (sRet (shm (fOp (vB cEq) (frz (fCallI 1 g_law_told (aHere 1 (aCons (eC (.str [100, 114, 111, 112])) (aNil))))) (fTup (aCons (eC (.bl true)) (aCons (eC (.bl false)) (aNil))))))))))))
def g_law : FSem := runDef [true] 5 b_law
end
end Lw


set_option Elab.async false
set_option linter.all false
set_option maxRecDepth 100000
set_option maxHeartbeats 4000000
namespace Lw
open PySem L2 Vs
/-! bits of products -/
theorem lt_bits (x : Int) : x.natAbs < 2 ^ Builtin.Int.intBits x := by
  unfold Builtin.Int.intBits
  by_cases h : x = 0
  · subst h; decide
  · have : (x == 0) = false := by simpa using h
    rw [this]
    exact Nat.lt_log2_self

/-! letters_of -/
theorem mem_small {c : Nat} : c ∈ c_SMALL ↔ 97 ≤ c ∧ c ≤ 122 := by
  unfold c_SMALL
  simp only [List.mem_cons, List.not_mem_nil, or_false]
  omega
/-- what is wrong at the k-th sign -/
def badL (t : List Nat) (k : Nat) : Bool := !decide (t.getD k 0 ∈ c_SMALL) || decide (t.getD k 0 ∈ t.take k)
/-- one to six unlike small letters -/
def goodL (t : List Nat) : Prop := 1 ≤ t.length ∧ t.length ≤ 6 ∧ t.Nodup ∧ ∀ c ∈ t, 97 ≤ c ∧ c ≤ 122
theorem badL_none {t : List Nat} : (List.range t.length).find? (badL t) = none ↔ t.Nodup ∧ ∀ c ∈ t, 97 ≤ c ∧ c ≤ 122 := by
  rw [List.find?_eq_none]
  constructor
  · intro h
    have h' : ∀ k (hk : k < t.length), t[k] ∈ c_SMALL ∧ t[k] ∉ t.take k := fun k hk => by
      have := h k (List.mem_range.mpr hk)
      unfold badL at this
      rw [List.getD_eq_getElem?_getD, List.getElem?_eq_getElem hk, Option.getD_some] at this
      simpa using this
    refine ⟨?_, fun c hc => ?_⟩
    · refine List.pairwise_iff_getElem.mpr fun i j hi hj hij e => (h' j hj).2 ?_
      rw [← e]
      exact List.mem_take_iff_getElem.mpr ⟨i, by omega, rfl⟩
    · obtain ⟨k, hk, e⟩ := List.getElem_of_mem hc
      rw [← e]
      exact mem_small.mp (h' k hk).1
  · rintro ⟨h1, h2⟩ k hk
    have hk := List.mem_range.mp hk
    unfold badL
    rw [List.getD_eq_getElem?_getD, List.getElem?_eq_getElem hk, Option.getD_some]
    have a1 : t[k] ∈ c_SMALL := mem_small.mpr (h2 _ (List.getElem_mem hk))
    have a2 : t[k] ∉ t.take k := fun m => by
      obtain ⟨i, hi, e⟩ := List.mem_take_iff_getElem.mp m
      exact List.pairwise_iff_getElem.mp h1 i k (by omega) hk (by omega) e
    simp [a1, a2]
theorem e_letters_of (t : List Nat) (ht : t.length ≤ 1000) : (goodL t ∧ g_letters_of [.str t] = some (.rt (.sh (.str t)))) ∨ (¬ goodL t ∧ g_letters_of [.str t] = some (.ex ⟨x_NoLetters, none⟩)) := by
  unfold g_letters_of b_letters_of
  by_cases h0 : 1 ≤ t.length ∧ t.length ≤ 6
  · have i1 : ∀ s, i1_letters_of [.sh (.str t), s] = some (.nx [.sh (.str t), s]) := fun s => by
      unfold i1_letters_of
      simp (disch := first | omega | assumption) only [if_pos, if_neg, decide_eq_true, decide_eq_false, atI_of, cutL_take, cutL_drop, cutL_mid, ge_iff_le, gt_iff_lt, Int.reduceToNat, Int.toNat_zero, Int.toNat_one, Bool.not_true, Bool.not_false, szl, sStuck, fLenS, cGtA, sAppQ, sSetQ, sForT, forTL, opSortT, fDItems, fDKeys, fLcO, D.key, fDNew, fDGet, sDPutV, fDSet, fRg3, fChV, fSortL, frL, frS, fSortB, sRem, sqAt, eIxI, fItm, fItV, chS, sItC, sItA, sItI, sItS, fTmp, Sl.mut, Sl.th, O.d, sqD, D.atm, sTryR, fSq, aConsF, aNilF, eO, sTgF, setFd, Fd.sl, opJoinRev, fLRev, runDef, runDefI, ioAt, insA, chL, getO, setO, getL, setL, obAt, eFd, eFV, eFB, fFld, fMeth, fMethI, fMake, fCallI, aHere, fIsO, sFldS, setF, Rs.fd, Fd.d, O.d, fMethD, chF, sAppF, fPopF, fPop0, fPop1, sIns, sRetI, sRetNI, fZip, fML, opAny, opAll, opSorted, opMaxL, opMinL, opRfind, opCount, List.map_cons, List.map_nil, cInA, cNinA, inD, itD, fItA, eItA, cLtA, cLeA, fRr1, fRr2, opInt, sPar, fCallD, fRaise0, fRaise1, sTryAs, sTry, aftr, noX, allEq_const, fXf, fXi, fLc, lcL, unE, tYs, Vs.ret, xLock, inis, bof, sNil, sSeq, sAsg, sRet, sRetV, sRetN, sIf, sDrop, sTg, sFor, sBrk, sCnt, sApp, sExt, sOwn, sSetI, opSetI, sLock, unlk, sbnd, bnd, fOp, fCh, fCl, fCall, fLst, fTup, fSl, fIf, fAnd, fOr, fNot, fTru, fAndV, fOrV, fNotV, fNeg, fIsi, fM1, fM2, fRg1, fRg2, fEn, fRev, fSg, fTp, fIt, eIt, eB, eV, eC, frz, shm, aCons, aNil, poN, poS, Rs.d, Rs.sl, vB, List.cons_append, List.nil_append, List.append_nil, List.replicate_zero, List.replicate_succ, List.getElem?_cons_zero, List.getElem?_cons_succ, List.set_cons_zero, List.set_cons_succ, List.length_cons, List.length_nil, opLen, lenD, opList, opAdd, opSub, opMul, opMod, opDiv, opPow, opMin, opMax, opIx, opSl, cmpB, cEq, cNe, cIsN, cNotN, truD, tgN, tgT, setAll, isKd, opFind, opFind3, opStarts, opStarts3, Nat.reduceLT, Nat.reduceAdd, Nat.reduceSub, Nat.reduceLeDiff, Int.reduceLT, Int.reduceLE, Int.reduceNeg, reduceIte, and_self, true_and, and_true, decide_true, decide_false, Int.toNat_natCast]
    have step : ∀ k ∈ List.range t.length, ∀ j : Sl, ∃ e1, tgN 1 (.int (0 + (k : Int))) [.sh (.str t), j] = some e1 ∧ ((badL t k = true ∧ ∃ j' : Sl, l1_letters_of e1 = some (.ex ⟨x_NoLetters, none⟩ [.sh (.str t), j'])) ∨ (badL t k = false ∧ ∃ j' : Sl, l1_letters_of e1 = some (.nx [.sh (.str t), j']))) := fun k hk j => by
      have hk := List.mem_range.mp hk
      refine ⟨_, rfl, ?_⟩
      have e0 : (0 : Int) + (k : Int) = (k : Int) := by omega
      have eb : badL t k = (!decide (t[k] ∈ c_SMALL) || decide (t[k] ∈ t.take k)) := by
        unfold badL
        rw [List.getD_eq_getElem?_getD, List.getElem?_eq_getElem hk, Option.getD_some]
      rw [eb]
      unfold l1_letters_of i2_letters_of
      by_cases h1 : t[k] ∈ c_SMALL
      · by_cases h2 : t[k] ∈ t.take k
        · refine .inl ⟨by simp [h1, h2], .sh (.int (k : Int)), ?_⟩
          simp (disch := first | omega | assumption) only [if_pos, if_neg, decide_eq_true, decide_eq_false, atI_of, cutL_take, cutL_drop, cutL_mid, ge_iff_le, gt_iff_lt, Int.reduceToNat, Int.toNat_zero, Int.toNat_one, Bool.not_true, Bool.not_false, szl, sStuck, fLenS, cGtA, sAppQ, sSetQ, sForT, forTL, opSortT, fDItems, fDKeys, fLcO, D.key, fDNew, fDGet, sDPutV, fDSet, fRg3, fChV, fSortL, frL, frS, fSortB, sRem, sqAt, eIxI, fItm, fItV, chS, sItC, sItA, sItI, sItS, fTmp, Sl.mut, Sl.th, O.d, sqD, D.atm, sTryR, fSq, aConsF, aNilF, eO, sTgF, setFd, Fd.sl, opJoinRev, fLRev, runDef, runDefI, ioAt, insA, chL, getO, setO, getL, setL, obAt, eFd, eFV, eFB, fFld, fMeth, fMethI, fMake, fCallI, aHere, fIsO, sFldS, setF, Rs.fd, Fd.d, O.d, fMethD, chF, sAppF, fPopF, fPop0, fPop1, sIns, sRetI, sRetNI, fZip, fML, opAny, opAll, opSorted, opMaxL, opMinL, opRfind, opCount, List.map_cons, List.map_nil, cInA, cNinA, inD, itD, fItA, eItA, cLtA, cLeA, fRr1, fRr2, opInt, sPar, fCallD, fRaise0, fRaise1, sTryAs, sTry, aftr, noX, allEq_const, fXf, fXi, fLc, lcL, unE, tYs, Vs.ret, xLock, inis, bof, sNil, sSeq, sAsg, sRet, sRetV, sRetN, sIf, sDrop, sTg, sFor, sBrk, sCnt, sApp, sExt, sOwn, sSetI, opSetI, sLock, unlk, sbnd, bnd, fOp, fCh, fCl, fCall, fLst, fTup, fSl, fIf, fAnd, fOr, fNot, fTru, fAndV, fOrV, fNotV, fNeg, fIsi, fM1, fM2, fRg1, fRg2, fEn, fRev, fSg, fTp, fIt, eIt, eB, eV, eC, frz, shm, aCons, aNil, poN, poS, Rs.d, Rs.sl, vB, List.cons_append, List.nil_append, List.append_nil, List.replicate_zero, List.replicate_succ, List.getElem?_cons_zero, List.getElem?_cons_succ, List.set_cons_zero, List.set_cons_succ, List.length_cons, List.length_nil, opLen, lenD, opList, opAdd, opSub, opMul, opMod, opDiv, opPow, opMin, opMax, opIx, opSl, cmpB, cEq, cNe, cIsN, cNotN, truD, tgN, tgT, setAll, isKd, opFind, opFind3, opStarts, opStarts3, Nat.reduceLT, Nat.reduceAdd, Nat.reduceSub, Nat.reduceLeDiff, Int.reduceLT, Int.reduceLE, Int.reduceNeg, reduceIte, and_self, true_and, and_true, decide_true, decide_false, Int.toNat_natCast, e0, List.getElem?_eq_getElem hk, cNinA, cInA, cNin, cIn, Bool.not_true]
        · refine .inr ⟨by simp [h1, h2], .sh (.int (k : Int)), ?_⟩
          simp (disch := first | omega | assumption) only [if_pos, if_neg, decide_eq_true, decide_eq_false, atI_of, cutL_take, cutL_drop, cutL_mid, ge_iff_le, gt_iff_lt, Int.reduceToNat, Int.toNat_zero, Int.toNat_one, Bool.not_true, Bool.not_false, szl, sStuck, fLenS, cGtA, sAppQ, sSetQ, sForT, forTL, opSortT, fDItems, fDKeys, fLcO, D.key, fDNew, fDGet, sDPutV, fDSet, fRg3, fChV, fSortL, frL, frS, fSortB, sRem, sqAt, eIxI, fItm, fItV, chS, sItC, sItA, sItI, sItS, fTmp, Sl.mut, Sl.th, O.d, sqD, D.atm, sTryR, fSq, aConsF, aNilF, eO, sTgF, setFd, Fd.sl, opJoinRev, fLRev, runDef, runDefI, ioAt, insA, chL, getO, setO, getL, setL, obAt, eFd, eFV, eFB, fFld, fMeth, fMethI, fMake, fCallI, aHere, fIsO, sFldS, setF, Rs.fd, Fd.d, O.d, fMethD, chF, sAppF, fPopF, fPop0, fPop1, sIns, sRetI, sRetNI, fZip, fML, opAny, opAll, opSorted, opMaxL, opMinL, opRfind, opCount, List.map_cons, List.map_nil, cInA, cNinA, inD, itD, fItA, eItA, cLtA, cLeA, fRr1, fRr2, opInt, sPar, fCallD, fRaise0, fRaise1, sTryAs, sTry, aftr, noX, allEq_const, fXf, fXi, fLc, lcL, unE, tYs, Vs.ret, xLock, inis, bof, sNil, sSeq, sAsg, sRet, sRetV, sRetN, sIf, sDrop, sTg, sFor, sBrk, sCnt, sApp, sExt, sOwn, sSetI, opSetI, sLock, unlk, sbnd, bnd, fOp, fCh, fCl, fCall, fLst, fTup, fSl, fIf, fAnd, fOr, fNot, fTru, fAndV, fOrV, fNotV, fNeg, fIsi, fM1, fM2, fRg1, fRg2, fEn, fRev, fSg, fTp, fIt, eIt, eB, eV, eC, frz, shm, aCons, aNil, poN, poS, Rs.d, Rs.sl, vB, List.cons_append, List.nil_append, List.append_nil, List.replicate_zero, List.replicate_succ, List.getElem?_cons_zero, List.getElem?_cons_succ, List.set_cons_zero, List.set_cons_succ, List.length_cons, List.length_nil, opLen, lenD, opList, opAdd, opSub, opMul, opMod, opDiv, opPow, opMin, opMax, opIx, opSl, cmpB, cEq, cNe, cIsN, cNotN, truD, tgN, tgT, setAll, isKd, opFind, opFind3, opStarts, opStarts3, Nat.reduceLT, Nat.reduceAdd, Nat.reduceSub, Nat.reduceLeDiff, Int.reduceLT, Int.reduceLE, Int.reduceNeg, reduceIte, and_self, true_and, and_true, decide_true, decide_false, Int.toNat_natCast, e0, List.getElem?_eq_getElem hk, cNinA, cInA, cNin, cIn, Bool.not_true]
      · refine .inl ⟨by simp [h1], .sh (.int (k : Int)), ?_⟩
        simp (disch := first | omega | assumption) only [if_pos, if_neg, decide_eq_true, decide_eq_false, atI_of, cutL_take, cutL_drop, cutL_mid, ge_iff_le, gt_iff_lt, Int.reduceToNat, Int.toNat_zero, Int.toNat_one, Bool.not_true, Bool.not_false, szl, sStuck, fLenS, cGtA, sAppQ, sSetQ, sForT, forTL, opSortT, fDItems, fDKeys, fLcO, D.key, fDNew, fDGet, sDPutV, fDSet, fRg3, fChV, fSortL, frL, frS, fSortB, sRem, sqAt, eIxI, fItm, fItV, chS, sItC, sItA, sItI, sItS, fTmp, Sl.mut, Sl.th, O.d, sqD, D.atm, sTryR, fSq, aConsF, aNilF, eO, sTgF, setFd, Fd.sl, opJoinRev, fLRev, runDef, runDefI, ioAt, insA, chL, getO, setO, getL, setL, obAt, eFd, eFV, eFB, fFld, fMeth, fMethI, fMake, fCallI, aHere, fIsO, sFldS, setF, Rs.fd, Fd.d, O.d, fMethD, chF, sAppF, fPopF, fPop0, fPop1, sIns, sRetI, sRetNI, fZip, fML, opAny, opAll, opSorted, opMaxL, opMinL, opRfind, opCount, List.map_cons, List.map_nil, cInA, cNinA, inD, itD, fItA, eItA, cLtA, cLeA, fRr1, fRr2, opInt, sPar, fCallD, fRaise0, fRaise1, sTryAs, sTry, aftr, noX, allEq_const, fXf, fXi, fLc, lcL, unE, tYs, Vs.ret, xLock, inis, bof, sNil, sSeq, sAsg, sRet, sRetV, sRetN, sIf, sDrop, sTg, sFor, sBrk, sCnt, sApp, sExt, sOwn, sSetI, opSetI, sLock, unlk, sbnd, bnd, fOp, fCh, fCl, fCall, fLst, fTup, fSl, fIf, fAnd, fOr, fNot, fTru, fAndV, fOrV, fNotV, fNeg, fIsi, fM1, fM2, fRg1, fRg2, fEn, fRev, fSg, fTp, fIt, eIt, eB, eV, eC, frz, shm, aCons, aNil, poN, poS, Rs.d, Rs.sl, vB, List.cons_append, List.nil_append, List.append_nil, List.replicate_zero, List.replicate_succ, List.getElem?_cons_zero, List.getElem?_cons_succ, List.set_cons_zero, List.set_cons_succ, List.length_cons, List.length_nil, opLen, lenD, opList, opAdd, opSub, opMul, opMod, opDiv, opPow, opMin, opMax, opIx, opSl, cmpB, cEq, cNe, cIsN, cNotN, truD, tgN, tgT, setAll, isKd, opFind, opFind3, opStarts, opStarts3, Nat.reduceLT, Nat.reduceAdd, Nat.reduceSub, Nat.reduceLeDiff, Int.reduceLT, Int.reduceLE, Int.reduceNeg, reduceIte, and_self, true_and, and_true, decide_true, decide_false, Int.toNat_natCast, e0, List.getElem?_eq_getElem hk, cNinA, cInA, cNin, cIn, Bool.not_false]
    rcases forL_findX (tg := tgN 1) (body := l1_letters_of) (fun (x : Sl) => [.sh (.str t), x]) (fun (k : Nat) => D.int (0 + (k : Int))) (badL t) (fun _ => ⟨x_NoLetters, none⟩) (List.range t.length) .un step with ⟨b, h1, h2, j, h3⟩ | ⟨h1, j, h3⟩
    · refine .inr ⟨fun g => ?_, ?_⟩
      · rw [badL_none.mpr ⟨g.2.2.1, g.2.2.2⟩] at h1
        cases h1
      · simp (disch := first | omega | assumption) only [if_pos, if_neg, decide_eq_true, decide_eq_false, atI_of, cutL_take, cutL_drop, cutL_mid, ge_iff_le, gt_iff_lt, Int.reduceToNat, Int.toNat_zero, Int.toNat_one, Bool.not_true, Bool.not_false, szl, sStuck, fLenS, cGtA, sAppQ, sSetQ, sForT, forTL, opSortT, fDItems, fDKeys, fLcO, D.key, fDNew, fDGet, sDPutV, fDSet, fRg3, fChV, fSortL, frL, frS, fSortB, sRem, sqAt, eIxI, fItm, fItV, chS, sItC, sItA, sItI, sItS, fTmp, Sl.mut, Sl.th, O.d, sqD, D.atm, sTryR, fSq, aConsF, aNilF, eO, sTgF, setFd, Fd.sl, opJoinRev, fLRev, runDef, runDefI, ioAt, insA, chL, getO, setO, getL, setL, obAt, eFd, eFV, eFB, fFld, fMeth, fMethI, fMake, fCallI, aHere, fIsO, sFldS, setF, Rs.fd, Fd.d, O.d, fMethD, chF, sAppF, fPopF, fPop0, fPop1, sIns, sRetI, sRetNI, fZip, fML, opAny, opAll, opSorted, opMaxL, opMinL, opRfind, opCount, List.map_cons, List.map_nil, cInA, cNinA, inD, itD, fItA, eItA, cLtA, cLeA, fRr1, fRr2, opInt, sPar, fCallD, fRaise0, fRaise1, sTryAs, sTry, aftr, noX, allEq_const, fXf, fXi, fLc, lcL, unE, tYs, Vs.ret, xLock, inis, bof, sNil, sSeq, sAsg, sRet, sRetV, sRetN, sIf, sDrop, sTg, sFor, sBrk, sCnt, sApp, sExt, sOwn, sSetI, opSetI, sLock, unlk, sbnd, bnd, fOp, fCh, fCl, fCall, fLst, fTup, fSl, fIf, fAnd, fOr, fNot, fTru, fAndV, fOrV, fNotV, fNeg, fIsi, fM1, fM2, fRg1, fRg2, fEn, fRev, fSg, fTp, fIt, eIt, eB, eV, eC, frz, shm, aCons, aNil, poN, poS, Rs.d, Rs.sl, vB, List.cons_append, List.nil_append, List.append_nil, List.replicate_zero, List.replicate_succ, List.getElem?_cons_zero, List.getElem?_cons_succ, List.set_cons_zero, List.set_cons_succ, List.length_cons, List.length_nil, opLen, lenD, opList, opAdd, opSub, opMul, opMod, opDiv, opPow, opMin, opMax, opIx, opSl, cmpB, cEq, cNe, cIsN, cNotN, truD, tgN, tgT, setAll, isKd, opFind, opFind3, opStarts, opStarts3, Nat.reduceLT, Nat.reduceAdd, Nat.reduceSub, Nat.reduceLeDiff, Int.reduceLT, Int.reduceLE, Int.reduceNeg, reduceIte, and_self, true_and, and_true, decide_true, decide_false, Int.toNat_natCast, i1, rng, h3]
    · refine .inl ⟨⟨h0.1, h0.2, badL_none.mp h1⟩, ?_⟩
      simp (disch := first | omega | assumption) only [if_pos, if_neg, decide_eq_true, decide_eq_false, atI_of, cutL_take, cutL_drop, cutL_mid, ge_iff_le, gt_iff_lt, Int.reduceToNat, Int.toNat_zero, Int.toNat_one, Bool.not_true, Bool.not_false, szl, sStuck, fLenS, cGtA, sAppQ, sSetQ, sForT, forTL, opSortT, fDItems, fDKeys, fLcO, D.key, fDNew, fDGet, sDPutV, fDSet, fRg3, fChV, fSortL, frL, frS, fSortB, sRem, sqAt, eIxI, fItm, fItV, chS, sItC, sItA, sItI, sItS, fTmp, Sl.mut, Sl.th, O.d, sqD, D.atm, sTryR, fSq, aConsF, aNilF, eO, sTgF, setFd, Fd.sl, opJoinRev, fLRev, runDef, runDefI, ioAt, insA, chL, getO, setO, getL, setL, obAt, eFd, eFV, eFB, fFld, fMeth, fMethI, fMake, fCallI, aHere, fIsO, sFldS, setF, Rs.fd, Fd.d, O.d, fMethD, chF, sAppF, fPopF, fPop0, fPop1, sIns, sRetI, sRetNI, fZip, fML, opAny, opAll, opSorted, opMaxL, opMinL, opRfind, opCount, List.map_cons, List.map_nil, cInA, cNinA, inD, itD, fItA, eItA, cLtA, cLeA, fRr1, fRr2, opInt, sPar, fCallD, fRaise0, fRaise1, sTryAs, sTry, aftr, noX, allEq_const, fXf, fXi, fLc, lcL, unE, tYs, Vs.ret, xLock, inis, bof, sNil, sSeq, sAsg, sRet, sRetV, sRetN, sIf, sDrop, sTg, sFor, sBrk, sCnt, sApp, sExt, sOwn, sSetI, opSetI, sLock, unlk, sbnd, bnd, fOp, fCh, fCl, fCall, fLst, fTup, fSl, fIf, fAnd, fOr, fNot, fTru, fAndV, fOrV, fNotV, fNeg, fIsi, fM1, fM2, fRg1, fRg2, fEn, fRev, fSg, fTp, fIt, eIt, eB, eV, eC, frz, shm, aCons, aNil, poN, poS, Rs.d, Rs.sl, vB, List.cons_append, List.nil_append, List.append_nil, List.replicate_zero, List.replicate_succ, List.getElem?_cons_zero, List.getElem?_cons_succ, List.set_cons_zero, List.set_cons_succ, List.length_cons, List.length_nil, opLen, lenD, opList, opAdd, opSub, opMul, opMod, opDiv, opPow, opMin, opMax, opIx, opSl, cmpB, cEq, cNe, cIsN, cNotN, truD, tgN, tgT, setAll, isKd, opFind, opFind3, opStarts, opStarts3, Nat.reduceLT, Nat.reduceAdd, Nat.reduceSub, Nat.reduceLeDiff, Int.reduceLT, Int.reduceLE, Int.reduceNeg, reduceIte, and_self, true_and, and_true, decide_true, decide_false, Int.toNat_natCast, i1, rng, h3]
  · refine .inr ⟨fun g => h0 ⟨g.1, g.2.1⟩, ?_⟩
    have i1 : ∀ s, i1_letters_of [.sh (.str t), s] = some (.ex ⟨x_NoLetters, none⟩ [.sh (.str t), s]) := fun s => by
      unfold i1_letters_of
      by_cases h1 : 1 ≤ t.length
      · simp (disch := first | omega | assumption) only [if_pos, if_neg, decide_eq_true, decide_eq_false, atI_of, cutL_take, cutL_drop, cutL_mid, ge_iff_le, gt_iff_lt, Int.reduceToNat, Int.toNat_zero, Int.toNat_one, Bool.not_true, Bool.not_false, szl, sStuck, fLenS, cGtA, sAppQ, sSetQ, sForT, forTL, opSortT, fDItems, fDKeys, fLcO, D.key, fDNew, fDGet, sDPutV, fDSet, fRg3, fChV, fSortL, frL, frS, fSortB, sRem, sqAt, eIxI, fItm, fItV, chS, sItC, sItA, sItI, sItS, fTmp, Sl.mut, Sl.th, O.d, sqD, D.atm, sTryR, fSq, aConsF, aNilF, eO, sTgF, setFd, Fd.sl, opJoinRev, fLRev, runDef, runDefI, ioAt, insA, chL, getO, setO, getL, setL, obAt, eFd, eFV, eFB, fFld, fMeth, fMethI, fMake, fCallI, aHere, fIsO, sFldS, setF, Rs.fd, Fd.d, O.d, fMethD, chF, sAppF, fPopF, fPop0, fPop1, sIns, sRetI, sRetNI, fZip, fML, opAny, opAll, opSorted, opMaxL, opMinL, opRfind, opCount, List.map_cons, List.map_nil, cInA, cNinA, inD, itD, fItA, eItA, cLtA, cLeA, fRr1, fRr2, opInt, sPar, fCallD, fRaise0, fRaise1, sTryAs, sTry, aftr, noX, allEq_const, fXf, fXi, fLc, lcL, unE, tYs, Vs.ret, xLock, inis, bof, sNil, sSeq, sAsg, sRet, sRetV, sRetN, sIf, sDrop, sTg, sFor, sBrk, sCnt, sApp, sExt, sOwn, sSetI, opSetI, sLock, unlk, sbnd, bnd, fOp, fCh, fCl, fCall, fLst, fTup, fSl, fIf, fAnd, fOr, fNot, fTru, fAndV, fOrV, fNotV, fNeg, fIsi, fM1, fM2, fRg1, fRg2, fEn, fRev, fSg, fTp, fIt, eIt, eB, eV, eC, frz, shm, aCons, aNil, poN, poS, Rs.d, Rs.sl, vB, List.cons_append, List.nil_append, List.append_nil, List.replicate_zero, List.replicate_succ, List.getElem?_cons_zero, List.getElem?_cons_succ, List.set_cons_zero, List.set_cons_succ, List.length_cons, List.length_nil, opLen, lenD, opList, opAdd, opSub, opMul, opMod, opDiv, opPow, opMin, opMax, opIx, opSl, cmpB, cEq, cNe, cIsN, cNotN, truD, tgN, tgT, setAll, isKd, opFind, opFind3, opStarts, opStarts3, Nat.reduceLT, Nat.reduceAdd, Nat.reduceSub, Nat.reduceLeDiff, Int.reduceLT, Int.reduceLE, Int.reduceNeg, reduceIte, and_self, true_and, and_true, decide_true, decide_false, Int.toNat_natCast]
      · simp (disch := first | omega | assumption) only [if_pos, if_neg, decide_eq_true, decide_eq_false, atI_of, cutL_take, cutL_drop, cutL_mid, ge_iff_le, gt_iff_lt, Int.reduceToNat, Int.toNat_zero, Int.toNat_one, Bool.not_true, Bool.not_false, szl, sStuck, fLenS, cGtA, sAppQ, sSetQ, sForT, forTL, opSortT, fDItems, fDKeys, fLcO, D.key, fDNew, fDGet, sDPutV, fDSet, fRg3, fChV, fSortL, frL, frS, fSortB, sRem, sqAt, eIxI, fItm, fItV, chS, sItC, sItA, sItI, sItS, fTmp, Sl.mut, Sl.th, O.d, sqD, D.atm, sTryR, fSq, aConsF, aNilF, eO, sTgF, setFd, Fd.sl, opJoinRev, fLRev, runDef, runDefI, ioAt, insA, chL, getO, setO, getL, setL, obAt, eFd, eFV, eFB, fFld, fMeth, fMethI, fMake, fCallI, aHere, fIsO, sFldS, setF, Rs.fd, Fd.d, O.d, fMethD, chF, sAppF, fPopF, fPop0, fPop1, sIns, sRetI, sRetNI, fZip, fML, opAny, opAll, opSorted, opMaxL, opMinL, opRfind, opCount, List.map_cons, List.map_nil, cInA, cNinA, inD, itD, fItA, eItA, cLtA, cLeA, fRr1, fRr2, opInt, sPar, fCallD, fRaise0, fRaise1, sTryAs, sTry, aftr, noX, allEq_const, fXf, fXi, fLc, lcL, unE, tYs, Vs.ret, xLock, inis, bof, sNil, sSeq, sAsg, sRet, sRetV, sRetN, sIf, sDrop, sTg, sFor, sBrk, sCnt, sApp, sExt, sOwn, sSetI, opSetI, sLock, unlk, sbnd, bnd, fOp, fCh, fCl, fCall, fLst, fTup, fSl, fIf, fAnd, fOr, fNot, fTru, fAndV, fOrV, fNotV, fNeg, fIsi, fM1, fM2, fRg1, fRg2, fEn, fRev, fSg, fTp, fIt, eIt, eB, eV, eC, frz, shm, aCons, aNil, poN, poS, Rs.d, Rs.sl, vB, List.cons_append, List.nil_append, List.append_nil, List.replicate_zero, List.replicate_succ, List.getElem?_cons_zero, List.getElem?_cons_succ, List.set_cons_zero, List.set_cons_succ, List.length_cons, List.length_nil, opLen, lenD, opList, opAdd, opSub, opMul, opMod, opDiv, opPow, opMin, opMax, opIx, opSl, cmpB, cEq, cNe, cIsN, cNotN, truD, tgN, tgT, setAll, isKd, opFind, opFind3, opStarts, opStarts3, Nat.reduceLT, Nat.reduceAdd, Nat.reduceSub, Nat.reduceLeDiff, Int.reduceLT, Int.reduceLE, Int.reduceNeg, reduceIte, and_self, true_and, and_true, decide_true, decide_false, Int.toNat_natCast]
    simp (disch := first | omega | assumption) only [if_pos, if_neg, decide_eq_true, decide_eq_false, atI_of, cutL_take, cutL_drop, cutL_mid, ge_iff_le, gt_iff_lt, Int.reduceToNat, Int.toNat_zero, Int.toNat_one, Bool.not_true, Bool.not_false, szl, sStuck, fLenS, cGtA, sAppQ, sSetQ, sForT, forTL, opSortT, fDItems, fDKeys, fLcO, D.key, fDNew, fDGet, sDPutV, fDSet, fRg3, fChV, fSortL, frL, frS, fSortB, sRem, sqAt, eIxI, fItm, fItV, chS, sItC, sItA, sItI, sItS, fTmp, Sl.mut, Sl.th, O.d, sqD, D.atm, sTryR, fSq, aConsF, aNilF, eO, sTgF, setFd, Fd.sl, opJoinRev, fLRev, runDef, runDefI, ioAt, insA, chL, getO, setO, getL, setL, obAt, eFd, eFV, eFB, fFld, fMeth, fMethI, fMake, fCallI, aHere, fIsO, sFldS, setF, Rs.fd, Fd.d, O.d, fMethD, chF, sAppF, fPopF, fPop0, fPop1, sIns, sRetI, sRetNI, fZip, fML, opAny, opAll, opSorted, opMaxL, opMinL, opRfind, opCount, List.map_cons, List.map_nil, cInA, cNinA, inD, itD, fItA, eItA, cLtA, cLeA, fRr1, fRr2, opInt, sPar, fCallD, fRaise0, fRaise1, sTryAs, sTry, aftr, noX, allEq_const, fXf, fXi, fLc, lcL, unE, tYs, Vs.ret, xLock, inis, bof, sNil, sSeq, sAsg, sRet, sRetV, sRetN, sIf, sDrop, sTg, sFor, sBrk, sCnt, sApp, sExt, sOwn, sSetI, opSetI, sLock, unlk, sbnd, bnd, fOp, fCh, fCl, fCall, fLst, fTup, fSl, fIf, fAnd, fOr, fNot, fTru, fAndV, fOrV, fNotV, fNeg, fIsi, fM1, fM2, fRg1, fRg2, fEn, fRev, fSg, fTp, fIt, eIt, eB, eV, eC, frz, shm, aCons, aNil, poN, poS, Rs.d, Rs.sl, vB, List.cons_append, List.nil_append, List.append_nil, List.replicate_zero, List.replicate_succ, List.getElem?_cons_zero, List.getElem?_cons_succ, List.set_cons_zero, List.set_cons_succ, List.length_cons, List.length_nil, opLen, lenD, opList, opAdd, opSub, opMul, opMod, opDiv, opPow, opMin, opMax, opIx, opSl, cmpB, cEq, cNe, cIsN, cNotN, truD, tgN, tgT, setAll, isKd, opFind, opFind3, opStarts, opStarts3, Nat.reduceLT, Nat.reduceAdd, Nat.reduceSub, Nat.reduceLeDiff, Int.reduceLT, Int.reduceLE, Int.reduceNeg, reduceIte, and_self, true_and, and_true, decide_true, decide_false, Int.toNat_natCast, i1]

/-! ''.join of texts -/
theorem join_eqS (y : Str) (parts : List Str) : Txt.join y parts = Str.join y parts := StrLaws.glued_eq_join y parts
theorem join_nil : ∀ ws : List (List Nat), (Txt.join (S []) (ws.map S)).cps.toList = ws.flatten
  | [] => by
    rw [join_eqS]
    rfl
  | [w] => by
    rw [join_eqS]
    show (S w).cps.toList = _
    rw [List.flatten_cons, List.flatten_nil, List.append_nil]
    rfl
  | w :: v :: ws => by
    have ih := join_nil (v :: ws)
    rw [join_eqS] at ih ⊢
    show (S w ++ S [] ++ Str.join (S []) ((v :: ws).map S)).cps.toList = _
    have e : ∀ x y : Str, (x ++ y).cps.toList = x.cps.toList ++ y.cps.toList := fun x y => by
      show (x.cps ++ y.cps).toList = _
      rw [Array.toList_append]
    rw [e, e, ih]
    show w ++ [] ++ (v :: ws).flatten = (w :: v :: ws).flatten
    rw [List.append_nil]
    rfl
theorem allStrs_map : ∀ ws : List (List Nat), allStrs (ws.map D.str) = some ws
  | [] => rfl
  | w :: ws => by
    show (match allStrs (ws.map D.str) with | some r => some (w :: r) | none => none) = _
    rw [allStrs_map ws]
theorem opJoin_nil {ws : List (List Nat)} (h : (ws.map List.length).sum ≤ 1000000) : opJoin [] (.lst (ws.map D.str)) = some (.sh (.str ws.flatten)) := by
  unfold opJoin
  dsimp only
  rw [allStrs_map]
  dsimp only
  rw [if_pos (by show _ + ws.length * 0 ≤ 1000000; omega), join_nil]

/-! k91: what is drawn -/
theorem cell_bits {ns : List Int} (h : ∀ z ∈ ns, Builtin.Int.intBits z ≤ 1048576) (k : Nat) : Builtin.Int.intBits (ns.getD k 0) ≤ 1048576 := by
  rw [List.getD_eq_getElem?_getD]
  cases e : ns[k]? with
  | none => decide
  | some z => exact h z (List.mem_of_getElem? e)
theorem e_cell0 (ns : List Int) : g_law_cell_at [.scr ns, .int 0] = some (.rt (.sh (.int (ns.getD 0 0)))) := by
  unfold g_law_cell_at b_law_cell_at i1_law_cell_at
  by_cases h : 0 < ns.length
  · have h2 : (0 : Int) < (ns.length : Int) := by omega
    simp (disch := first | omega | assumption) only [if_pos, if_neg, decide_eq_true, decide_eq_false, atI_of, cutL_take, cutL_drop, cutL_mid, ge_iff_le, gt_iff_lt, Int.reduceToNat, Int.toNat_zero, Int.toNat_one, Bool.not_true, Bool.not_false, szl, sStuck, fLenS, cGtA, sAppQ, sSetQ, sForT, forTL, opSortT, fDItems, fDKeys, fLcO, D.key, fDNew, fDGet, sDPutV, fDSet, fRg3, fChV, fSortL, frL, frS, fSortB, sRem, sqAt, eIxI, fItm, fItV, chS, sItC, sItA, sItI, sItS, fTmp, Sl.mut, Sl.th, O.d, sqD, D.atm, sTryR, fSq, aConsF, aNilF, eO, sTgF, setFd, Fd.sl, opJoinRev, fLRev, runDef, runDefI, ioAt, insA, chL, getO, setO, getL, setL, obAt, eFd, eFV, eFB, fFld, fMeth, fMethI, fMake, fCallI, aHere, fIsO, sFldS, setF, Rs.fd, Fd.d, O.d, fMethD, chF, sAppF, fPopF, fPop0, fPop1, sIns, sRetI, sRetNI, fZip, fML, opAny, opAll, opSorted, opMaxL, opMinL, opRfind, opCount, List.map_cons, List.map_nil, cInA, cNinA, inD, itD, fItA, eItA, cLtA, cLeA, fRr1, fRr2, opInt, sPar, fCallD, fRaise0, fRaise1, sTryAs, sTry, aftr, noX, allEq_const, fXf, fXi, fLc, lcL, unE, tYs, Vs.ret, xLock, inis, bof, sNil, sSeq, sAsg, sRet, sRetV, sRetN, sIf, sDrop, sTg, sFor, sBrk, sCnt, sApp, sExt, sOwn, sSetI, opSetI, sLock, unlk, sbnd, bnd, fOp, fCh, fCl, fCall, fLst, fTup, fSl, fIf, fAnd, fOr, fNot, fTru, fAndV, fOrV, fNotV, fNeg, fIsi, fM1, fM2, fRg1, fRg2, fEn, fRev, fSg, fTp, fIt, eIt, eB, eV, eC, frz, shm, aCons, aNil, poN, poS, Rs.d, Rs.sl, vB, List.cons_append, List.nil_append, List.append_nil, List.replicate_zero, List.replicate_succ, List.getElem?_cons_zero, List.getElem?_cons_succ, List.set_cons_zero, List.set_cons_succ, List.length_cons, List.length_nil, opLen, lenD, opList, opAdd, opSub, opMul, opMod, opDiv, opPow, opMin, opMax, opIx, opSl, cmpB, cEq, cNe, cIsN, cNotN, truD, tgN, tgT, setAll, isKd, opFind, opFind3, opStarts, opStarts3, Nat.reduceLT, Nat.reduceAdd, Nat.reduceSub, Nat.reduceLeDiff, Int.reduceLT, Int.reduceLE, Int.reduceNeg, reduceIte, and_self, true_and, and_true, decide_true, decide_false, Int.toNat_natCast, decide_eq_true h2, List.getElem?_eq_getElem h, List.getD_eq_getElem?_getD, Option.getD_some]
  · have h2 : ¬ (0 : Int) < (ns.length : Int) := by omega
    simp (disch := first | omega | assumption) only [if_pos, if_neg, decide_eq_true, decide_eq_false, atI_of, cutL_take, cutL_drop, cutL_mid, ge_iff_le, gt_iff_lt, Int.reduceToNat, Int.toNat_zero, Int.toNat_one, Bool.not_true, Bool.not_false, szl, sStuck, fLenS, cGtA, sAppQ, sSetQ, sForT, forTL, opSortT, fDItems, fDKeys, fLcO, D.key, fDNew, fDGet, sDPutV, fDSet, fRg3, fChV, fSortL, frL, frS, fSortB, sRem, sqAt, eIxI, fItm, fItV, chS, sItC, sItA, sItI, sItS, fTmp, Sl.mut, Sl.th, O.d, sqD, D.atm, sTryR, fSq, aConsF, aNilF, eO, sTgF, setFd, Fd.sl, opJoinRev, fLRev, runDef, runDefI, ioAt, insA, chL, getO, setO, getL, setL, obAt, eFd, eFV, eFB, fFld, fMeth, fMethI, fMake, fCallI, aHere, fIsO, sFldS, setF, Rs.fd, Fd.d, O.d, fMethD, chF, sAppF, fPopF, fPop0, fPop1, sIns, sRetI, sRetNI, fZip, fML, opAny, opAll, opSorted, opMaxL, opMinL, opRfind, opCount, List.map_cons, List.map_nil, cInA, cNinA, inD, itD, fItA, eItA, cLtA, cLeA, fRr1, fRr2, opInt, sPar, fCallD, fRaise0, fRaise1, sTryAs, sTry, aftr, noX, allEq_const, fXf, fXi, fLc, lcL, unE, tYs, Vs.ret, xLock, inis, bof, sNil, sSeq, sAsg, sRet, sRetV, sRetN, sIf, sDrop, sTg, sFor, sBrk, sCnt, sApp, sExt, sOwn, sSetI, opSetI, sLock, unlk, sbnd, bnd, fOp, fCh, fCl, fCall, fLst, fTup, fSl, fIf, fAnd, fOr, fNot, fTru, fAndV, fOrV, fNotV, fNeg, fIsi, fM1, fM2, fRg1, fRg2, fEn, fRev, fSg, fTp, fIt, eIt, eB, eV, eC, frz, shm, aCons, aNil, poN, poS, Rs.d, Rs.sl, vB, List.cons_append, List.nil_append, List.append_nil, List.replicate_zero, List.replicate_succ, List.getElem?_cons_zero, List.getElem?_cons_succ, List.set_cons_zero, List.set_cons_succ, List.length_cons, List.length_nil, opLen, lenD, opList, opAdd, opSub, opMul, opMod, opDiv, opPow, opMin, opMax, opIx, opSl, cmpB, cEq, cNe, cIsN, cNotN, truD, tgN, tgT, setAll, isKd, opFind, opFind3, opStarts, opStarts3, Nat.reduceLT, Nat.reduceAdd, Nat.reduceSub, Nat.reduceLeDiff, Int.reduceLT, Int.reduceLE, Int.reduceNeg, reduceIte, and_self, true_and, and_true, decide_true, decide_false, Int.toNat_natCast, decide_eq_false h2, List.getD_eq_getElem?_getD, List.getElem?_eq_none (show ns.length ≤ 0 by omega), Option.getD_none]
theorem bits_div {c : Int} {n : Nat} (h : Builtin.Int.intBits c ≤ n) : Builtin.Int.intBits (c / 12) ≤ n := by
  refine PyProof.Rows.intBits_le ?_
  have h1 := lt_bits c
  have h2 : 2 ^ Builtin.Int.intBits c ≤ 2 ^ n := Nat.pow_le_pow_right (by decide) h
  generalize 2 ^ n = N at *
  omega
theorem bits_add {c k : Int} {n : Nat} (h : Builtin.Int.intBits c ≤ n) (h5 : 5 ≤ n) (h0 : 0 ≤ k) (hk : k ≤ 10) : Builtin.Int.intBits (c + k) ≤ n + 1 := by
  refine PyProof.Rows.intBits_le ?_
  have h1 := lt_bits c
  have h2 : 2 ^ Builtin.Int.intBits c ≤ 2 ^ n := Nat.pow_le_pow_right (by decide) h
  have h3 : 2 ^ 5 ≤ 2 ^ n := Nat.pow_le_pow_right (by decide) h5
  have h4 : 2 ^ (n + 1) = 2 ^ n + 2 ^ n := by rw [Nat.pow_succ]; omega
  rw [h4]
  generalize 2 ^ n = N at *
  omega
def azL : List Nat := [97, 98, 99, 100, 101, 102, 103, 104, 105, 106, 107, 108, 109, 110, 111, 112, 113, 114, 115, 116, 117, 118, 119, 120, 121, 122]
theorem az_at : ∀ i, i < 26 → azL.getD i 0 = 97 + i := by decide
theorem e_letters (c : Int) : ∃ L, g_law_letters [.int c, .int 6] = some (.rt (.sh (.str L))) ∧ goodL L := by
  unfold g_law_letters b_law_letters
  obtain ⟨m, hm, hm1, hm2⟩ : ∃ m : Nat, 1 + c % 6 = (m : Int) ∧ 1 ≤ m ∧ m ≤ 6 := ⟨(1 + c % 6).toNat, by omega, by omega, by omega⟩
  obtain ⟨st, hst⟩ : ∃ st, st = c / 6 % 26 := ⟨_, rfl⟩
  obtain ⟨ap, hap⟩ : ∃ ap, ap = 1 + 2 * (c / 157 % 6) := ⟨_, rfl⟩
  have hap0 : ap = 1 ∨ ap = 3 ∨ ap = 5 ∨ ap = 7 ∨ ap = 9 ∨ ap = 11 := by omega
  have b0 : Builtin.Int.intBits 2 + Builtin.Int.intBits (c / 157 % 6) ≤ 134217728 := by
    have h1 : Builtin.Int.intBits (c / 157 % 6) ≤ 32 := PyProof.Rows.intBits_le (show (c / 157 % 6).natAbs < 2 ^ 32 by omega)
    have h2 : Builtin.Int.intBits 2 ≤ 100 := by decide
    omega
  obtain ⟨A, hA⟩ : ∃ A : List Nat, A = [97, 98, 99, 100, 101, 102, 103, 104, 105, 106, 107, 108, 109, 110, 111, 112, 113, 114, 115, 116, 117, 118, 119, 120, 121, 122] := ⟨_, rfl⟩
  have hAl : A.length = 26 := by rw [hA]; rfl
  have hAm : ∀ i, i < 26 → A.getD i 0 = 97 + i := by rw [hA]; exact az_at
  rw [← hA]
  obtain ⟨j, f1⟩ := lcL_fun (f := tgN 6) (te := fOp opIx (eB 2) (frz (fOp opMod (frz (fOp opAdd (eB 4) (frz (fOp opMul (eB 5) (eB 6))))) (eC (.int 26))))) (vs := [6]) (fun (_ : Unit) => [.sh (.int c), .sh (.int 6), .sh (.str A), .sh (.int (m : Int)), .sh (.int st), .sh (.int ap), .un]) (fun (k : Nat) => D.int (0 + (k : Int))) (fun k => D.str [A.getD ((st + ap * (k : Int)) % 26).toNat 0]) (List.range m) [] () fun k hk _ => by
    have hk := List.mem_range.mp hk
    have e0 : (0 : Int) + (k : Int) = (k : Int) := by omega
    have b1 : Builtin.Int.intBits ap + Builtin.Int.intBits (k : Int) ≤ 134217728 := by
      have h1 : Builtin.Int.intBits ap ≤ 32 := PyProof.Rows.intBits_le (show ap.natAbs < 2 ^ 32 by omega)
      have h2 : Builtin.Int.intBits (k : Int) ≤ 32 := PyProof.Rows.intBits_le (show (k : Int).natAbs < 2 ^ 32 by omega)
      omega
    have q1 := Int.emod_nonneg (st + ap * (k : Int)) (show (26 : Int) ≠ 0 by decide)
    have q2 := Int.emod_lt_of_pos (st + ap * (k : Int)) (show (0 : Int) < 26 by decide)
    have hi : ((st + ap * (k : Int)) % 26).toNat < A.length := by omega
    have hg : A.getD ((st + ap * (k : Int)) % 26).toNat 0 = A[((st + ap * (k : Int)) % 26).toNat] := by rw [List.getD_eq_getElem?_getD, List.getElem?_eq_getElem hi]; rfl
    refine ⟨_, rfl, [.sh (.int c), .sh (.int 6), .sh (.str A), .sh (.int (m : Int)), .sh (.int st), .sh (.int ap), .sh (.int (k : Int))], ?_, (), rfl⟩
    simp (disch := first | omega | assumption) only [if_pos, if_neg, decide_eq_true, decide_eq_false, atI_of, cutL_take, cutL_drop, cutL_mid, ge_iff_le, gt_iff_lt, Int.reduceToNat, Int.toNat_zero, Int.toNat_one, Bool.not_true, Bool.not_false, szl, sStuck, fLenS, cGtA, sAppQ, sSetQ, sForT, forTL, opSortT, fDItems, fDKeys, fLcO, D.key, fDNew, fDGet, sDPutV, fDSet, fRg3, fChV, fSortL, frL, frS, fSortB, sRem, sqAt, eIxI, fItm, fItV, chS, sItC, sItA, sItI, sItS, fTmp, Sl.mut, Sl.th, O.d, sqD, D.atm, sTryR, fSq, aConsF, aNilF, eO, sTgF, setFd, Fd.sl, opJoinRev, fLRev, runDef, runDefI, ioAt, insA, chL, getO, setO, getL, setL, obAt, eFd, eFV, eFB, fFld, fMeth, fMethI, fMake, fCallI, aHere, fIsO, sFldS, setF, Rs.fd, Fd.d, O.d, fMethD, chF, sAppF, fPopF, fPop0, fPop1, sIns, sRetI, sRetNI, fZip, fML, opAny, opAll, opSorted, opMaxL, opMinL, opRfind, opCount, List.map_cons, List.map_nil, cInA, cNinA, inD, itD, fItA, eItA, cLtA, cLeA, fRr1, fRr2, opInt, sPar, fCallD, fRaise0, fRaise1, sTryAs, sTry, aftr, noX, allEq_const, fXf, fXi, fLc, lcL, unE, tYs, Vs.ret, xLock, inis, bof, sNil, sSeq, sAsg, sRet, sRetV, sRetN, sIf, sDrop, sTg, sFor, sBrk, sCnt, sApp, sExt, sOwn, sSetI, opSetI, sLock, unlk, sbnd, bnd, fOp, fCh, fCl, fCall, fLst, fTup, fSl, fIf, fAnd, fOr, fNot, fTru, fAndV, fOrV, fNotV, fNeg, fIsi, fM1, fM2, fRg1, fRg2, fEn, fRev, fSg, fTp, fIt, eIt, eB, eV, eC, frz, shm, aCons, aNil, poN, poS, Rs.d, Rs.sl, vB, List.cons_append, List.nil_append, List.append_nil, List.replicate_zero, List.replicate_succ, List.getElem?_cons_zero, List.getElem?_cons_succ, List.set_cons_zero, List.set_cons_succ, List.length_cons, List.length_nil, opLen, lenD, opList, opAdd, opSub, opMul, opMod, opDiv, opPow, opMin, opMax, opIx, opSl, cmpB, cEq, cNe, cIsN, cNotN, truD, tgN, tgT, setAll, isKd, opFind, opFind3, opStarts, opStarts3, Nat.reduceLT, Nat.reduceAdd, Nat.reduceSub, Nat.reduceLeDiff, Int.reduceLT, Int.reduceLE, Int.reduceNeg, reduceIte, and_self, true_and, and_true, decide_true, decide_false, Int.toNat_natCast, e0, List.getElem?_eq_getElem hi, hg]
  obtain ⟨f, hf⟩ : ∃ f : Nat → Nat, f = fun (k : Nat) => A.getD ((st + ap * (k : Int)) % 26).toNat 0 := ⟨_, rfl⟩
  have fv : ∀ k, f k = 97 + ((st + ap * (k : Int)) % 26).toNat := fun k => by
    have q1 := Int.emod_nonneg (st + ap * (k : Int)) (show (26 : Int) ≠ 0 by decide)
    have q2 := Int.emod_lt_of_pos (st + ap * (k : Int)) (show (0 : Int) < 26 by decide)
    rw [hf]
    exact hAm _ (by omega)
  obtain ⟨ws, hws⟩ : ∃ ws : List (List Nat), ws = (List.range m).map fun (k : Nat) => [f k] := ⟨_, rfl⟩
  have f1' : lcL (tgN 6) tYs (fOp opIx (eB 2) (frz (fOp opMod (frz (fOp opAdd (eB 4) (frz (fOp opMul (eB 5) (eB 6))))) (eC (.int 26))))) [6] (rng 0 m) [] [.sh (.int c), .sh (.int 6), .sh (.str A), .sh (.int (m : Int)), .sh (.int st), .sh (.int ap), .un] = some (.ok (.ow (ws.map D.str)) [.sh (.int c), .sh (.int 6), .sh (.str A), .sh (.int (m : Int)), .sh (.int st), .sh (.int ap), .un]) := by
    rw [hws, List.map_map, hf]
    exact f1
  have hfl : ∀ l : List Nat, (l.map fun k => [f k]).flatten = l.map f ∧ ((l.map fun k => [f k]).map List.length).sum = l.length := fun l => by
    induction l with
    | nil => exact ⟨rfl, rfl⟩
    | cons v l ih =>
      refine ⟨by rw [List.map_cons, List.flatten_cons, ih.1, List.map_cons]; rfl, ?_⟩
      rw [List.map_cons, List.map_cons, List.sum_cons, ih.2, List.length_cons, List.length_cons, List.length_nil]
      omega
  obtain ⟨g1, g2⟩ := hfl (List.range m)
  rw [← hws] at g1 g2
  rw [List.length_range] at g2
  have hj := opJoin_nil (ws := ws) (by omega)
  refine ⟨ws.flatten, ?_, ?_⟩
  · have hrl : (rng 0 m).length ≤ 1000000 := by rw [rng_len]; omega
    simp (disch := first | omega | assumption) only [if_pos, if_neg, decide_eq_true, decide_eq_false, atI_of, cutL_take, cutL_drop, cutL_mid, ge_iff_le, gt_iff_lt, Int.reduceToNat, Int.toNat_zero, Int.toNat_one, Bool.not_true, Bool.not_false, szl, sStuck, fLenS, cGtA, sAppQ, sSetQ, sForT, forTL, opSortT, fDItems, fDKeys, fLcO, D.key, fDNew, fDGet, sDPutV, fDSet, fRg3, fChV, fSortL, frL, frS, fSortB, sRem, sqAt, eIxI, fItm, fItV, chS, sItC, sItA, sItI, sItS, fTmp, Sl.mut, Sl.th, O.d, sqD, D.atm, sTryR, fSq, aConsF, aNilF, eO, sTgF, setFd, Fd.sl, opJoinRev, fLRev, runDef, runDefI, ioAt, insA, chL, getO, setO, getL, setL, obAt, eFd, eFV, eFB, fFld, fMeth, fMethI, fMake, fCallI, aHere, fIsO, sFldS, setF, Rs.fd, Fd.d, O.d, fMethD, chF, sAppF, fPopF, fPop0, fPop1, sIns, sRetI, sRetNI, fZip, fML, opAny, opAll, opSorted, opMaxL, opMinL, opRfind, opCount, List.map_cons, List.map_nil, cInA, cNinA, inD, itD, fItA, eItA, cLtA, cLeA, fRr1, fRr2, opInt, sPar, fCallD, fRaise0, fRaise1, sTryAs, sTry, aftr, noX, allEq_const, fXf, fXi, fLc, lcL, unE, tYs, Vs.ret, xLock, inis, bof, sNil, sSeq, sAsg, sRet, sRetV, sRetN, sIf, sDrop, sTg, sFor, sBrk, sCnt, sApp, sExt, sOwn, sSetI, opSetI, sLock, unlk, sbnd, bnd, fOp, fCh, fCl, fCall, fLst, fTup, fSl, fIf, fAnd, fOr, fNot, fTru, fAndV, fOrV, fNotV, fNeg, fIsi, fM1, fM2, fRg1, fRg2, fEn, fRev, fSg, fTp, fIt, eIt, eB, eV, eC, frz, shm, aCons, aNil, poN, poS, Rs.d, Rs.sl, vB, List.cons_append, List.nil_append, List.append_nil, List.replicate_zero, List.replicate_succ, List.getElem?_cons_zero, List.getElem?_cons_succ, List.set_cons_zero, List.set_cons_succ, List.length_cons, List.length_nil, opLen, lenD, opList, opAdd, opSub, opMul, opMod, opDiv, opPow, opMin, opMax, opIx, opSl, cmpB, cEq, cNe, cIsN, cNotN, truD, tgN, tgT, setAll, isKd, opFind, opFind3, opStarts, opStarts3, Nat.reduceLT, Nat.reduceAdd, Nat.reduceSub, Nat.reduceLeDiff, Int.reduceLT, Int.reduceLE, Int.reduceNeg, reduceIte, and_self, true_and, and_true, decide_true, decide_false, Int.toNat_natCast] at f1'
    simp (disch := first | omega | assumption) only [if_pos, if_neg, decide_eq_true, decide_eq_false, atI_of, cutL_take, cutL_drop, cutL_mid, ge_iff_le, gt_iff_lt, Int.reduceToNat, Int.toNat_zero, Int.toNat_one, Bool.not_true, Bool.not_false, szl, sStuck, fLenS, cGtA, sAppQ, sSetQ, sForT, forTL, opSortT, fDItems, fDKeys, fLcO, D.key, fDNew, fDGet, sDPutV, fDSet, fRg3, fChV, fSortL, frL, frS, fSortB, sRem, sqAt, eIxI, fItm, fItV, chS, sItC, sItA, sItI, sItS, fTmp, Sl.mut, Sl.th, O.d, sqD, D.atm, sTryR, fSq, aConsF, aNilF, eO, sTgF, setFd, Fd.sl, opJoinRev, fLRev, runDef, runDefI, ioAt, insA, chL, getO, setO, getL, setL, obAt, eFd, eFV, eFB, fFld, fMeth, fMethI, fMake, fCallI, aHere, fIsO, sFldS, setF, Rs.fd, Fd.d, O.d, fMethD, chF, sAppF, fPopF, fPop0, fPop1, sIns, sRetI, sRetNI, fZip, fML, opAny, opAll, opSorted, opMaxL, opMinL, opRfind, opCount, List.map_cons, List.map_nil, cInA, cNinA, inD, itD, fItA, eItA, cLtA, cLeA, fRr1, fRr2, opInt, sPar, fCallD, fRaise0, fRaise1, sTryAs, sTry, aftr, noX, allEq_const, fXf, fXi, fLc, lcL, unE, tYs, Vs.ret, xLock, inis, bof, sNil, sSeq, sAsg, sRet, sRetV, sRetN, sIf, sDrop, sTg, sFor, sBrk, sCnt, sApp, sExt, sOwn, sSetI, opSetI, sLock, unlk, sbnd, bnd, fOp, fCh, fCl, fCall, fLst, fTup, fSl, fIf, fAnd, fOr, fNot, fTru, fAndV, fOrV, fNotV, fNeg, fIsi, fM1, fM2, fRg1, fRg2, fEn, fRev, fSg, fTp, fIt, eIt, eB, eV, eC, frz, shm, aCons, aNil, poN, poS, Rs.d, Rs.sl, vB, List.cons_append, List.nil_append, List.append_nil, List.replicate_zero, List.replicate_succ, List.getElem?_cons_zero, List.getElem?_cons_succ, List.set_cons_zero, List.set_cons_succ, List.length_cons, List.length_nil, opLen, lenD, opList, opAdd, opSub, opMul, opMod, opDiv, opPow, opMin, opMax, opIx, opSl, cmpB, cEq, cNe, cIsN, cNotN, truD, tgN, tgT, setAll, isKd, opFind, opFind3, opStarts, opStarts3, Nat.reduceLT, Nat.reduceAdd, Nat.reduceSub, Nat.reduceLeDiff, Int.reduceLT, Int.reduceLE, Int.reduceNeg, reduceIte, and_self, true_and, and_true, decide_true, decide_false, Int.toNat_natCast, hm, ← hst, ← hap, f1', hj]
  · rw [g1]
    refine ⟨by rw [List.length_map, List.length_range]; exact hm1, by rw [List.length_map, List.length_range]; exact hm2, ?_, fun c hc => ?_⟩
    · refine List.pairwise_map.mpr (List.Pairwise.imp_of_mem (R := fun a b => a ≠ b) (fun {a b} ha hb hab => ?_) List.nodup_range)
      have ha := List.mem_range.mp ha
      have hb := List.mem_range.mp hb
      rw [fv, fv]
      intro e
      rcases hap0 with h | h | h | h | h | h <;> rw [h] at e <;> omega
    · obtain ⟨k, hk, rfl⟩ := List.mem_map.mp hc
      rw [fv]
      have q1 := Int.emod_nonneg (st + ap * (k : Int)) (show (26 : Int) ≠ 0 by decide)
      have q2 := Int.emod_lt_of_pos (st + ap * (k : Int)) (show (0 : Int) < 26 by decide)
      omega
theorem bits_small {n : Int} (h0 : 0 ≤ n) (h : n < 4294967296) : Builtin.Int.intBits n + Builtin.Int.intBits 48271 ≤ 134217728 := by
  have h1 : Builtin.Int.intBits n ≤ 32 := PyProof.Rows.intBits_le (show n.natAbs < 2 ^ 32 by omega)
  have h2 : Builtin.Int.intBits 48271 ≤ 100 := by decide
  omega
theorem e_word (L : List Nat) (c : Int) (hL : 0 < L.length) (hL2 : L.length ≤ 1000) : ∃ w, g_law_word [.int c, .str L, .int 10] = some (.rt (.sh (.str w))) ∧ w.length ≤ 10 ∧ ∀ x ∈ w, x ∈ L := by
  obtain ⟨m, hm, hm2⟩ : ∃ m : Nat, c % 11 = (m : Int) ∧ m ≤ 10 := ⟨(c % 11).toNat, by omega, by omega⟩
  obtain ⟨n0, hn0⟩ : ∃ n, n = c / 11 % 2147483647 := ⟨_, rfl⟩
  have hn1 : 0 ≤ n0 ∧ n0 < 2147483647 := by omega
  obtain ⟨e', h1, w, n, s1, rfl, h2, h3, h4, h5⟩ := forL_inv (tg := tgN 6) (body := l1_law_word) (fun i e => ∃ (w : List Nat) (n : Int) (s1 : Sl), e = [.sh (.int c), .sh (.str L), .sh (.int 10), .sh (.int m), .sh (.int n), .sh (.str w), s1] ∧ w.length = i ∧ 0 ≤ n ∧ n < 4294967296 ∧ ∀ x ∈ w, x ∈ L)
    (rng 0 m) [.sh (.int c), .sh (.str L), .sh (.int 10), .sh (.int m), .sh (.int n0), .sh (.str []), .un] ⟨[], n0, .un, rfl, rfl, by omega, by omega, fun x hx => by cases hx⟩ (fun i d e hd ⟨w, n, s1, he, h2, h3, h4, h5⟩ => by
      obtain ⟨hi, rfl⟩ := rng_get hd
      subst he
      refine ⟨_, rfl, ?_⟩
      unfold l1_law_word
      have b1 := bits_small h3 h4
      obtain ⟨N, hN⟩ : ∃ N, N = (n * 48271 + 11) % 2147483647 := ⟨_, rfl⟩
      have r1 : 0 ≤ N ∧ N < 2147483647 := by omega
      have hl0 : (0 : Int) < (L.length : Int) := by omega
      have p1 := Int.emod_nonneg (N / 64) (show (L.length : Int) ≠ 0 by omega)
      have p2 := Int.emod_lt_of_pos (N / 64) hl0
      obtain ⟨K, hK⟩ : ∃ K : Int, K = N / 64 % (L.length : Int) := ⟨_, rfl⟩
      rw [← hK] at p1 p2
      have hk : K.toNat < L.length := by omega
      have hwl : w.length ≤ 1000 := by omega
      simp (disch := first | omega | assumption) only [if_pos, if_neg, decide_eq_true, decide_eq_false, atI_of, cutL_take, cutL_drop, cutL_mid, ge_iff_le, gt_iff_lt, Int.reduceToNat, Int.toNat_zero, Int.toNat_one, Bool.not_true, Bool.not_false, szl, sStuck, fLenS, cGtA, sAppQ, sSetQ, sForT, forTL, opSortT, fDItems, fDKeys, fLcO, D.key, fDNew, fDGet, sDPutV, fDSet, fRg3, fChV, fSortL, frL, frS, fSortB, sRem, sqAt, eIxI, fItm, fItV, chS, sItC, sItA, sItI, sItS, fTmp, Sl.mut, Sl.th, O.d, sqD, D.atm, sTryR, fSq, aConsF, aNilF, eO, sTgF, setFd, Fd.sl, opJoinRev, fLRev, runDef, runDefI, ioAt, insA, chL, getO, setO, getL, setL, obAt, eFd, eFV, eFB, fFld, fMeth, fMethI, fMake, fCallI, aHere, fIsO, sFldS, setF, Rs.fd, Fd.d, O.d, fMethD, chF, sAppF, fPopF, fPop0, fPop1, sIns, sRetI, sRetNI, fZip, fML, opAny, opAll, opSorted, opMaxL, opMinL, opRfind, opCount, List.map_cons, List.map_nil, cInA, cNinA, inD, itD, fItA, eItA, cLtA, cLeA, fRr1, fRr2, opInt, sPar, fCallD, fRaise0, fRaise1, sTryAs, sTry, aftr, noX, allEq_const, fXf, fXi, fLc, lcL, unE, tYs, Vs.ret, xLock, inis, bof, sNil, sSeq, sAsg, sRet, sRetV, sRetN, sIf, sDrop, sTg, sFor, sBrk, sCnt, sApp, sExt, sOwn, sSetI, opSetI, sLock, unlk, sbnd, bnd, fOp, fCh, fCl, fCall, fLst, fTup, fSl, fIf, fAnd, fOr, fNot, fTru, fAndV, fOrV, fNotV, fNeg, fIsi, fM1, fM2, fRg1, fRg2, fEn, fRev, fSg, fTp, fIt, eIt, eB, eV, eC, frz, shm, aCons, aNil, poN, poS, Rs.d, Rs.sl, vB, List.cons_append, List.nil_append, List.append_nil, List.replicate_zero, List.replicate_succ, List.getElem?_cons_zero, List.getElem?_cons_succ, List.set_cons_zero, List.set_cons_succ, List.length_cons, List.length_nil, opLen, lenD, opList, opAdd, opSub, opMul, opMod, opDiv, opPow, opMin, opMax, opIx, opSl, cmpB, cEq, cNe, cIsN, cNotN, truD, tgN, tgT, setAll, isKd, opFind, opFind3, opStarts, opStarts3, Nat.reduceLT, Nat.reduceAdd, Nat.reduceSub, Nat.reduceLeDiff, Int.reduceLT, Int.reduceLE, Int.reduceNeg, reduceIte, and_self, true_and, and_true, decide_true, decide_false, Int.toNat_natCast, ← hN, ← hK, List.getElem?_eq_getElem hk]
      refine ⟨_, rfl, _, _, _, rfl, ?_, r1.1, by omega, fun x hx => ?_⟩
      · rw [List.length_append, List.length_cons, List.length_nil]
        omega
      · rcases List.mem_append.mp hx with hx | hx
        · exact h5 x hx
        · rw [List.mem_singleton.mp hx]
          exact List.getElem_mem hk)
  rw [rng_len] at h2
  refine ⟨w, ?_, by omega, h5⟩
  have e11 : (10 : Int) + 1 = 11 := rfl
  unfold g_law_word b_law_word
  simp (disch := first | omega | assumption) only [if_pos, if_neg, decide_eq_true, decide_eq_false, atI_of, cutL_take, cutL_drop, cutL_mid, ge_iff_le, gt_iff_lt, Int.reduceToNat, Int.toNat_zero, Int.toNat_one, Bool.not_true, Bool.not_false, szl, sStuck, fLenS, cGtA, sAppQ, sSetQ, sForT, forTL, opSortT, fDItems, fDKeys, fLcO, D.key, fDNew, fDGet, sDPutV, fDSet, fRg3, fChV, fSortL, frL, frS, fSortB, sRem, sqAt, eIxI, fItm, fItV, chS, sItC, sItA, sItI, sItS, fTmp, Sl.mut, Sl.th, O.d, sqD, D.atm, sTryR, fSq, aConsF, aNilF, eO, sTgF, setFd, Fd.sl, opJoinRev, fLRev, runDef, runDefI, ioAt, insA, chL, getO, setO, getL, setL, obAt, eFd, eFV, eFB, fFld, fMeth, fMethI, fMake, fCallI, aHere, fIsO, sFldS, setF, Rs.fd, Fd.d, O.d, fMethD, chF, sAppF, fPopF, fPop0, fPop1, sIns, sRetI, sRetNI, fZip, fML, opAny, opAll, opSorted, opMaxL, opMinL, opRfind, opCount, List.map_cons, List.map_nil, cInA, cNinA, inD, itD, fItA, eItA, cLtA, cLeA, fRr1, fRr2, opInt, sPar, fCallD, fRaise0, fRaise1, sTryAs, sTry, aftr, noX, allEq_const, fXf, fXi, fLc, lcL, unE, tYs, Vs.ret, xLock, inis, bof, sNil, sSeq, sAsg, sRet, sRetV, sRetN, sIf, sDrop, sTg, sFor, sBrk, sCnt, sApp, sExt, sOwn, sSetI, opSetI, sLock, unlk, sbnd, bnd, fOp, fCh, fCl, fCall, fLst, fTup, fSl, fIf, fAnd, fOr, fNot, fTru, fAndV, fOrV, fNotV, fNeg, fIsi, fM1, fM2, fRg1, fRg2, fEn, fRev, fSg, fTp, fIt, eIt, eB, eV, eC, frz, shm, aCons, aNil, poN, poS, Rs.d, Rs.sl, vB, List.cons_append, List.nil_append, List.append_nil, List.replicate_zero, List.replicate_succ, List.getElem?_cons_zero, List.getElem?_cons_succ, List.set_cons_zero, List.set_cons_succ, List.length_cons, List.length_nil, opLen, lenD, opList, opAdd, opSub, opMul, opMod, opDiv, opPow, opMin, opMax, opIx, opSl, cmpB, cEq, cNe, cIsN, cNotN, truD, tgN, tgT, setAll, isKd, opFind, opFind3, opStarts, opStarts3, Nat.reduceLT, Nat.reduceAdd, Nat.reduceSub, Nat.reduceLeDiff, Int.reduceLT, Int.reduceLE, Int.reduceNeg, reduceIte, and_self, true_and, and_true, decide_true, decide_false, Int.toNat_natCast, e11, hm, ← hn0, h1]
theorem e_pact (L : List Nat) (c : Int) (hL : 0 < L.length) (hL2 : L.length ≤ 1000) (hc : Builtin.Int.intBits c ≤ 1048577) : ∃ a b, g_law_pact [.int c, .str L, .int 10] = some (.rt (.sh (.tup [.str a, .str b]))) ∧ (a.length ≤ 10 ∧ ∀ x ∈ a, x ∈ L) ∧ (b.length ≤ 10 ∧ ∀ x ∈ b, x ∈ L) := by
  obtain ⟨a, a1, a2⟩ := e_word L c hL hL2
  obtain ⟨b, b1, b2⟩ := e_word L (c * 69621 % 2147483629) hL hL2
  have p : Builtin.Int.intBits c + Builtin.Int.intBits 69621 ≤ 134217728 := by
    have : Builtin.Int.intBits 69621 ≤ 100 := by decide
    omega
  refine ⟨a, b, ?_, a2, b2⟩
  unfold g_law_pact b_law_pact
  simp (disch := first | omega | assumption) only [if_pos, if_neg, decide_eq_true, decide_eq_false, atI_of, cutL_take, cutL_drop, cutL_mid, ge_iff_le, gt_iff_lt, Int.reduceToNat, Int.toNat_zero, Int.toNat_one, Bool.not_true, Bool.not_false, szl, sStuck, fLenS, cGtA, sAppQ, sSetQ, sForT, forTL, opSortT, fDItems, fDKeys, fLcO, D.key, fDNew, fDGet, sDPutV, fDSet, fRg3, fChV, fSortL, frL, frS, fSortB, sRem, sqAt, eIxI, fItm, fItV, chS, sItC, sItA, sItI, sItS, fTmp, Sl.mut, Sl.th, O.d, sqD, D.atm, sTryR, fSq, aConsF, aNilF, eO, sTgF, setFd, Fd.sl, opJoinRev, fLRev, runDef, runDefI, ioAt, insA, chL, getO, setO, getL, setL, obAt, eFd, eFV, eFB, fFld, fMeth, fMethI, fMake, fCallI, aHere, fIsO, sFldS, setF, Rs.fd, Fd.d, O.d, fMethD, chF, sAppF, fPopF, fPop0, fPop1, sIns, sRetI, sRetNI, fZip, fML, opAny, opAll, opSorted, opMaxL, opMinL, opRfind, opCount, List.map_cons, List.map_nil, cInA, cNinA, inD, itD, fItA, eItA, cLtA, cLeA, fRr1, fRr2, opInt, sPar, fCallD, fRaise0, fRaise1, sTryAs, sTry, aftr, noX, allEq_const, fXf, fXi, fLc, lcL, unE, tYs, Vs.ret, xLock, inis, bof, sNil, sSeq, sAsg, sRet, sRetV, sRetN, sIf, sDrop, sTg, sFor, sBrk, sCnt, sApp, sExt, sOwn, sSetI, opSetI, sLock, unlk, sbnd, bnd, fOp, fCh, fCl, fCall, fLst, fTup, fSl, fIf, fAnd, fOr, fNot, fTru, fAndV, fOrV, fNotV, fNeg, fIsi, fM1, fM2, fRg1, fRg2, fEn, fRev, fSg, fTp, fIt, eIt, eB, eV, eC, frz, shm, aCons, aNil, poN, poS, Rs.d, Rs.sl, vB, List.cons_append, List.nil_append, List.append_nil, List.replicate_zero, List.replicate_succ, List.getElem?_cons_zero, List.getElem?_cons_succ, List.set_cons_zero, List.set_cons_succ, List.length_cons, List.length_nil, opLen, lenD, opList, opAdd, opSub, opMul, opMod, opDiv, opPow, opMin, opMax, opIx, opSl, cmpB, cEq, cNe, cIsN, cNotN, truD, tgN, tgT, setAll, isKd, opFind, opFind3, opStarts, opStarts3, Nat.reduceLT, Nat.reduceAdd, Nat.reduceSub, Nat.reduceLeDiff, Int.reduceLT, Int.reduceLE, Int.reduceNeg, reduceIte, and_self, true_and, and_true, decide_true, decide_false, Int.toNat_natCast, a1, b1]
theorem e_mixed (c : Int) (k : Nat) (hk : k < 4) (hc : Builtin.Int.intBits c ≤ 1048577) : ∃ z, g_law_mixed [.int c, .int (k : Int)] = some (.rt (.sh (.int z))) ∧ 0 ≤ z := by
  have p : ∀ j ∈ [(48271 : Int), 69621, 40692, 39373], Builtin.Int.intBits c + Builtin.Int.intBits j ≤ 134217728 := fun j hj => by
    have : ∀ j ∈ [(48271 : Int), 69621, 40692, 39373], Builtin.Int.intBits j ≤ 100 := by decide
    have := this j hj
    omega
  have p1 := p 48271 (by simp)
  have p2 := p 69621 (by simp)
  have p3 := p 40692 (by simp)
  have p4 := p 39373 (by simp)
  unfold g_law_mixed b_law_mixed
  match k, hk with
  | 0, _ => exact ⟨c * 48271 % 2147483647, by simp (disch := first | omega | assumption) only [if_pos, if_neg, decide_eq_true, decide_eq_false, atI_of, cutL_take, cutL_drop, cutL_mid, ge_iff_le, gt_iff_lt, Int.reduceToNat, Int.toNat_zero, Int.toNat_one, Bool.not_true, Bool.not_false, szl, sStuck, fLenS, cGtA, sAppQ, sSetQ, sForT, forTL, opSortT, fDItems, fDKeys, fLcO, D.key, fDNew, fDGet, sDPutV, fDSet, fRg3, fChV, fSortL, frL, frS, fSortB, sRem, sqAt, eIxI, fItm, fItV, chS, sItC, sItA, sItI, sItS, fTmp, Sl.mut, Sl.th, O.d, sqD, D.atm, sTryR, fSq, aConsF, aNilF, eO, sTgF, setFd, Fd.sl, opJoinRev, fLRev, runDef, runDefI, ioAt, insA, chL, getO, setO, getL, setL, obAt, eFd, eFV, eFB, fFld, fMeth, fMethI, fMake, fCallI, aHere, fIsO, sFldS, setF, Rs.fd, Fd.d, O.d, fMethD, chF, sAppF, fPopF, fPop0, fPop1, sIns, sRetI, sRetNI, fZip, fML, opAny, opAll, opSorted, opMaxL, opMinL, opRfind, opCount, List.map_cons, List.map_nil, cInA, cNinA, inD, itD, fItA, eItA, cLtA, cLeA, fRr1, fRr2, opInt, sPar, fCallD, fRaise0, fRaise1, sTryAs, sTry, aftr, noX, allEq_const, fXf, fXi, fLc, lcL, unE, tYs, Vs.ret, xLock, inis, bof, sNil, sSeq, sAsg, sRet, sRetV, sRetN, sIf, sDrop, sTg, sFor, sBrk, sCnt, sApp, sExt, sOwn, sSetI, opSetI, sLock, unlk, sbnd, bnd, fOp, fCh, fCl, fCall, fLst, fTup, fSl, fIf, fAnd, fOr, fNot, fTru, fAndV, fOrV, fNotV, fNeg, fIsi, fM1, fM2, fRg1, fRg2, fEn, fRev, fSg, fTp, fIt, eIt, eB, eV, eC, frz, shm, aCons, aNil, poN, poS, Rs.d, Rs.sl, vB, List.cons_append, List.nil_append, List.append_nil, List.replicate_zero, List.replicate_succ, List.getElem?_cons_zero, List.getElem?_cons_succ, List.set_cons_zero, List.set_cons_succ, List.length_cons, List.length_nil, opLen, lenD, opList, opAdd, opSub, opMul, opMod, opDiv, opPow, opMin, opMax, opIx, opSl, cmpB, cEq, cNe, cIsN, cNotN, truD, tgN, tgT, setAll, isKd, opFind, opFind3, opStarts, opStarts3, Nat.reduceLT, Nat.reduceAdd, Nat.reduceSub, Nat.reduceLeDiff, Int.reduceLT, Int.reduceLE, Int.reduceNeg, reduceIte, and_self, true_and, and_true, decide_true, decide_false, Int.toNat_natCast, show ((0 : Nat) : Int) = 0 from rfl], by omega⟩
  | 1, _ => exact ⟨c * 69621 % 2147483629, by simp (disch := first | omega | assumption) only [if_pos, if_neg, decide_eq_true, decide_eq_false, atI_of, cutL_take, cutL_drop, cutL_mid, ge_iff_le, gt_iff_lt, Int.reduceToNat, Int.toNat_zero, Int.toNat_one, Bool.not_true, Bool.not_false, szl, sStuck, fLenS, cGtA, sAppQ, sSetQ, sForT, forTL, opSortT, fDItems, fDKeys, fLcO, D.key, fDNew, fDGet, sDPutV, fDSet, fRg3, fChV, fSortL, frL, frS, fSortB, sRem, sqAt, eIxI, fItm, fItV, chS, sItC, sItA, sItI, sItS, fTmp, Sl.mut, Sl.th, O.d, sqD, D.atm, sTryR, fSq, aConsF, aNilF, eO, sTgF, setFd, Fd.sl, opJoinRev, fLRev, runDef, runDefI, ioAt, insA, chL, getO, setO, getL, setL, obAt, eFd, eFV, eFB, fFld, fMeth, fMethI, fMake, fCallI, aHere, fIsO, sFldS, setF, Rs.fd, Fd.d, O.d, fMethD, chF, sAppF, fPopF, fPop0, fPop1, sIns, sRetI, sRetNI, fZip, fML, opAny, opAll, opSorted, opMaxL, opMinL, opRfind, opCount, List.map_cons, List.map_nil, cInA, cNinA, inD, itD, fItA, eItA, cLtA, cLeA, fRr1, fRr2, opInt, sPar, fCallD, fRaise0, fRaise1, sTryAs, sTry, aftr, noX, allEq_const, fXf, fXi, fLc, lcL, unE, tYs, Vs.ret, xLock, inis, bof, sNil, sSeq, sAsg, sRet, sRetV, sRetN, sIf, sDrop, sTg, sFor, sBrk, sCnt, sApp, sExt, sOwn, sSetI, opSetI, sLock, unlk, sbnd, bnd, fOp, fCh, fCl, fCall, fLst, fTup, fSl, fIf, fAnd, fOr, fNot, fTru, fAndV, fOrV, fNotV, fNeg, fIsi, fM1, fM2, fRg1, fRg2, fEn, fRev, fSg, fTp, fIt, eIt, eB, eV, eC, frz, shm, aCons, aNil, poN, poS, Rs.d, Rs.sl, vB, List.cons_append, List.nil_append, List.append_nil, List.replicate_zero, List.replicate_succ, List.getElem?_cons_zero, List.getElem?_cons_succ, List.set_cons_zero, List.set_cons_succ, List.length_cons, List.length_nil, opLen, lenD, opList, opAdd, opSub, opMul, opMod, opDiv, opPow, opMin, opMax, opIx, opSl, cmpB, cEq, cNe, cIsN, cNotN, truD, tgN, tgT, setAll, isKd, opFind, opFind3, opStarts, opStarts3, Nat.reduceLT, Nat.reduceAdd, Nat.reduceSub, Nat.reduceLeDiff, Int.reduceLT, Int.reduceLE, Int.reduceNeg, reduceIte, and_self, true_and, and_true, decide_true, decide_false, Int.toNat_natCast, show ((1 : Nat) : Int) = 1 from rfl], by omega⟩
  | 2, _ => exact ⟨c * 40692 % 2147483587, by simp (disch := first | omega | assumption) only [if_pos, if_neg, decide_eq_true, decide_eq_false, atI_of, cutL_take, cutL_drop, cutL_mid, ge_iff_le, gt_iff_lt, Int.reduceToNat, Int.toNat_zero, Int.toNat_one, Bool.not_true, Bool.not_false, szl, sStuck, fLenS, cGtA, sAppQ, sSetQ, sForT, forTL, opSortT, fDItems, fDKeys, fLcO, D.key, fDNew, fDGet, sDPutV, fDSet, fRg3, fChV, fSortL, frL, frS, fSortB, sRem, sqAt, eIxI, fItm, fItV, chS, sItC, sItA, sItI, sItS, fTmp, Sl.mut, Sl.th, O.d, sqD, D.atm, sTryR, fSq, aConsF, aNilF, eO, sTgF, setFd, Fd.sl, opJoinRev, fLRev, runDef, runDefI, ioAt, insA, chL, getO, setO, getL, setL, obAt, eFd, eFV, eFB, fFld, fMeth, fMethI, fMake, fCallI, aHere, fIsO, sFldS, setF, Rs.fd, Fd.d, O.d, fMethD, chF, sAppF, fPopF, fPop0, fPop1, sIns, sRetI, sRetNI, fZip, fML, opAny, opAll, opSorted, opMaxL, opMinL, opRfind, opCount, List.map_cons, List.map_nil, cInA, cNinA, inD, itD, fItA, eItA, cLtA, cLeA, fRr1, fRr2, opInt, sPar, fCallD, fRaise0, fRaise1, sTryAs, sTry, aftr, noX, allEq_const, fXf, fXi, fLc, lcL, unE, tYs, Vs.ret, xLock, inis, bof, sNil, sSeq, sAsg, sRet, sRetV, sRetN, sIf, sDrop, sTg, sFor, sBrk, sCnt, sApp, sExt, sOwn, sSetI, opSetI, sLock, unlk, sbnd, bnd, fOp, fCh, fCl, fCall, fLst, fTup, fSl, fIf, fAnd, fOr, fNot, fTru, fAndV, fOrV, fNotV, fNeg, fIsi, fM1, fM2, fRg1, fRg2, fEn, fRev, fSg, fTp, fIt, eIt, eB, eV, eC, frz, shm, aCons, aNil, poN, poS, Rs.d, Rs.sl, vB, List.cons_append, List.nil_append, List.append_nil, List.replicate_zero, List.replicate_succ, List.getElem?_cons_zero, List.getElem?_cons_succ, List.set_cons_zero, List.set_cons_succ, List.length_cons, List.length_nil, opLen, lenD, opList, opAdd, opSub, opMul, opMod, opDiv, opPow, opMin, opMax, opIx, opSl, cmpB, cEq, cNe, cIsN, cNotN, truD, tgN, tgT, setAll, isKd, opFind, opFind3, opStarts, opStarts3, Nat.reduceLT, Nat.reduceAdd, Nat.reduceSub, Nat.reduceLeDiff, Int.reduceLT, Int.reduceLE, Int.reduceNeg, reduceIte, and_self, true_and, and_true, decide_true, decide_false, Int.toNat_natCast, show ((2 : Nat) : Int) = 2 from rfl], by omega⟩
  | 3, _ => exact ⟨c * 39373 % 2147483579, by simp (disch := first | omega | assumption) only [if_pos, if_neg, decide_eq_true, decide_eq_false, atI_of, cutL_take, cutL_drop, cutL_mid, ge_iff_le, gt_iff_lt, Int.reduceToNat, Int.toNat_zero, Int.toNat_one, Bool.not_true, Bool.not_false, szl, sStuck, fLenS, cGtA, sAppQ, sSetQ, sForT, forTL, opSortT, fDItems, fDKeys, fLcO, D.key, fDNew, fDGet, sDPutV, fDSet, fRg3, fChV, fSortL, frL, frS, fSortB, sRem, sqAt, eIxI, fItm, fItV, chS, sItC, sItA, sItI, sItS, fTmp, Sl.mut, Sl.th, O.d, sqD, D.atm, sTryR, fSq, aConsF, aNilF, eO, sTgF, setFd, Fd.sl, opJoinRev, fLRev, runDef, runDefI, ioAt, insA, chL, getO, setO, getL, setL, obAt, eFd, eFV, eFB, fFld, fMeth, fMethI, fMake, fCallI, aHere, fIsO, sFldS, setF, Rs.fd, Fd.d, O.d, fMethD, chF, sAppF, fPopF, fPop0, fPop1, sIns, sRetI, sRetNI, fZip, fML, opAny, opAll, opSorted, opMaxL, opMinL, opRfind, opCount, List.map_cons, List.map_nil, cInA, cNinA, inD, itD, fItA, eItA, cLtA, cLeA, fRr1, fRr2, opInt, sPar, fCallD, fRaise0, fRaise1, sTryAs, sTry, aftr, noX, allEq_const, fXf, fXi, fLc, lcL, unE, tYs, Vs.ret, xLock, inis, bof, sNil, sSeq, sAsg, sRet, sRetV, sRetN, sIf, sDrop, sTg, sFor, sBrk, sCnt, sApp, sExt, sOwn, sSetI, opSetI, sLock, unlk, sbnd, bnd, fOp, fCh, fCl, fCall, fLst, fTup, fSl, fIf, fAnd, fOr, fNot, fTru, fAndV, fOrV, fNotV, fNeg, fIsi, fM1, fM2, fRg1, fRg2, fEn, fRev, fSg, fTp, fIt, eIt, eB, eV, eC, frz, shm, aCons, aNil, poN, poS, Rs.d, Rs.sl, vB, List.cons_append, List.nil_append, List.append_nil, List.replicate_zero, List.replicate_succ, List.getElem?_cons_zero, List.getElem?_cons_succ, List.set_cons_zero, List.set_cons_succ, List.length_cons, List.length_nil, opLen, lenD, opList, opAdd, opSub, opMul, opMod, opDiv, opPow, opMin, opMax, opIx, opSl, cmpB, cEq, cNe, cIsN, cNotN, truD, tgN, tgT, setAll, isKd, opFind, opFind3, opStarts, opStarts3, Nat.reduceLT, Nat.reduceAdd, Nat.reduceSub, Nat.reduceLeDiff, Int.reduceLT, Int.reduceLE, Int.reduceNeg, reduceIte, and_self, true_and, and_true, decide_true, decide_false, Int.toNat_natCast, show ((3 : Nat) : Int) = 3 from rfl], by omega⟩

/-! startswith -/
theorem starts_eq (a b : List Nat) : Txt.startswith (S a) (S b) = (decide (b.length ≤ a.length) && (a.take b.length == b)) := by
  unfold Txt.startswith
  rw [PySem.StrLaws.subAt_eq, S_len, S_len, S_cps, S_cps]
  simp

/-! where a part stands -/
def stB (w p : List Nat) (i : Nat) : Bool := decide (i + p.length ≤ w.length) && ((w.drop i).take p.length == p)
theorem at_stB (w p : List Nat) (i : Nat) : PySem.StrLaws.At (S w) (S p) (S w).length i ↔ stB w p i = true := by
  unfold PySem.StrLaws.At stB
  rw [PySem.StrLaws.subAt_eq, S_len, S_len, S_cps, S_cps]
  simp
/-- the places from lo on, rising -/
def plc (w p : List Nat) (lo : Nat) : List Nat := (List.range' lo (w.length + 1 - lo)).filter (stB w p)
/-! word_of -/
def badAt (L w : List Nat) (M : Int) (i : Nat) : Bool := decide (M ≤ (i : Int)) || !decide (w.getD i 0 ∈ L)
def fb (L w : List Nat) (M : Int) : Option Nat := (List.range w.length).find? (badAt L w M)
theorem fb_hit {L w : List Nat} {M : Int} {k : Nat} (hk : k < w.length) (h : badAt L w M k = true) (h2 : ∀ j, j < k → badAt L w M j = false) : fb L w M = some k := by
  unfold fb
  rw [List.find?_range_eq_some]
  exact ⟨h, List.mem_range.mpr hk, fun j hj => by rw [h2 j hj]; rfl⟩
theorem fb_none {L w : List Nat} {M : Int} (h2 : ∀ j, j < w.length → badAt L w M j = false) : fb L w M = none := by
  unfold fb
  rw [List.find?_eq_none]
  intro j hj
  rw [h2 j (List.mem_range.mp hj)]
  decide
theorem i_word_of (L w : List Nat) (M : Int) (i : Nat) (hw : w.length ≤ 1000) (hi : i < w.length) : i1_word_of [.sh (.str L), .sh (.str w), .sh (.int M), .sh (.int (i : Int))] = if badAt L w M i = true then some (.ex ⟨x_NoWord, some (i : Int)⟩ [.sh (.str L), .sh (.str w), .sh (.int M), .sh (.int (i : Int))]) else some (.nx [.sh (.str L), .sh (.str w), .sh (.int M), .sh (.int (i : Int))]) := by
  unfold i1_word_of badAt
  have z1 : w.length ≤ szl := by show w.length ≤ 1000000; omega
  rw [List.getD_eq_getElem?_getD, List.getElem?_eq_getElem hi, Option.getD_some]
  by_cases h : M ≤ (i : Int)
  · simp only [sStuck, fLenS, cGtA, sAppQ, sSetQ, sForT, forTL, opSortT, fDItems, fDKeys, fLcO, D.key, fDNew, fDGet, sDPutV, fDSet, fRg3, fChV, fSortL, frL, frS, fSortB, sRem, sqAt, eIxI, fItm, fItV, chS, sItC, sItA, sItI, sItS, fTmp, Sl.mut, Sl.th, O.d, sqD, D.atm, sTryR, fSq, aConsF, aNilF, eO, sTgF, setFd, Fd.sl, opJoinRev, fLRev, runDef, runDefI, ioAt, insA, chL, getO, setO, getL, setL, obAt, eFd, eFV, eFB, fFld, fMeth, fMethI, fMake, fCallI, aHere, fIsO, sFldS, setF, Rs.fd, Fd.d, O.d, fMethD, chF, sAppF, fPopF, fPop0, fPop1, sIns, sRetI, sRetNI, fZip, fML, opAny, opAll, opSorted, opMaxL, opMinL, opRfind, opCount, List.map_cons, List.map_nil, cInA, cNinA, inD, itD, fItA, eItA, cLtA, cLeA, fRr1, fRr2, opInt, sPar, fCallD, fRaise0, fRaise1, sTryAs, sTry, aftr, noX, allEq_const, fXf, fXi, fLc, lcL, unE, tYs, Vs.ret, xLock, inis, bof, sNil, sSeq, sAsg, sRet, sRetV, sRetN, sIf, sDrop, sTg, sFor, sBrk, sCnt, sApp, sExt, sOwn, sSetI, opSetI, sLock, unlk, sbnd, bnd, fOp, fCh, fCl, fCall, fLst, fTup, fSl, fIf, fAnd, fOr, fNot, fTru, fAndV, fOrV, fNotV, fNeg, fIsi, fM1, fM2, fRg1, fRg2, fEn, fRev, fSg, fTp, fIt, eIt, eB, eV, eC, frz, shm, aCons, aNil, poN, poS, Rs.d, Rs.sl, vB, List.cons_append, List.nil_append, List.append_nil, List.replicate_zero, List.replicate_succ, List.getElem?_cons_zero, List.getElem?_cons_succ, List.set_cons_zero, List.set_cons_succ, List.length_cons, List.length_nil, opLen, lenD, opList, opAdd, opSub, opMul, opMod, opDiv, opPow, opMin, opMax, opIx, opSl, cmpB, cEq, cNe, cIsN, cNotN, truD, tgN, tgT, setAll, isKd, opFind, opFind3, opStarts, opStarts3, Nat.reduceLT, Nat.reduceAdd, Nat.reduceSub, Nat.reduceLeDiff, Int.reduceLT, Int.reduceLE, Int.reduceNeg, reduceIte, and_self, true_and, and_true, decide_true, decide_false, Int.toNat_natCast, decide_eq_true h, Bool.true_or]
  · simp only [sStuck, fLenS, cGtA, sAppQ, sSetQ, sForT, forTL, opSortT, fDItems, fDKeys, fLcO, D.key, fDNew, fDGet, sDPutV, fDSet, fRg3, fChV, fSortL, frL, frS, fSortB, sRem, sqAt, eIxI, fItm, fItV, chS, sItC, sItA, sItI, sItS, fTmp, Sl.mut, Sl.th, O.d, sqD, D.atm, sTryR, fSq, aConsF, aNilF, eO, sTgF, setFd, Fd.sl, opJoinRev, fLRev, runDef, runDefI, ioAt, insA, chL, getO, setO, getL, setL, obAt, eFd, eFV, eFB, fFld, fMeth, fMethI, fMake, fCallI, aHere, fIsO, sFldS, setF, Rs.fd, Fd.d, O.d, fMethD, chF, sAppF, fPopF, fPop0, fPop1, sIns, sRetI, sRetNI, fZip, fML, opAny, opAll, opSorted, opMaxL, opMinL, opRfind, opCount, List.map_cons, List.map_nil, cInA, cNinA, inD, itD, fItA, eItA, cLtA, cLeA, fRr1, fRr2, opInt, sPar, fCallD, fRaise0, fRaise1, sTryAs, sTry, aftr, noX, allEq_const, fXf, fXi, fLc, lcL, unE, tYs, Vs.ret, xLock, inis, bof, sNil, sSeq, sAsg, sRet, sRetV, sRetN, sIf, sDrop, sTg, sFor, sBrk, sCnt, sApp, sExt, sOwn, sSetI, opSetI, sLock, unlk, sbnd, bnd, fOp, fCh, fCl, fCall, fLst, fTup, fSl, fIf, fAnd, fOr, fNot, fTru, fAndV, fOrV, fNotV, fNeg, fIsi, fM1, fM2, fRg1, fRg2, fEn, fRev, fSg, fTp, fIt, eIt, eB, eV, eC, frz, shm, aCons, aNil, poN, poS, Rs.d, Rs.sl, vB, List.cons_append, List.nil_append, List.append_nil, List.replicate_zero, List.replicate_succ, List.getElem?_cons_zero, List.getElem?_cons_succ, List.set_cons_zero, List.set_cons_succ, List.length_cons, List.length_nil, opLen, lenD, opList, opAdd, opSub, opMul, opMod, opDiv, opPow, opMin, opMax, opIx, opSl, cmpB, cEq, cNe, cIsN, cNotN, truD, tgN, tgT, setAll, isKd, opFind, opFind3, opStarts, opStarts3, Nat.reduceLT, Nat.reduceAdd, Nat.reduceSub, Nat.reduceLeDiff, Int.reduceLT, Int.reduceLE, Int.reduceNeg, reduceIte, and_self, true_and, and_true, decide_true, decide_false, Int.toNat_natCast, decide_eq_false h, Bool.false_or, z1, atI_of w (show (0 : Int) ≤ (i : Int) by omega), List.getElem?_eq_getElem hi, cNin, cIn]
    by_cases h2 : w[i] ∈ L
    · simp only [sStuck, fLenS, cGtA, sAppQ, sSetQ, sForT, forTL, opSortT, fDItems, fDKeys, fLcO, D.key, fDNew, fDGet, sDPutV, fDSet, fRg3, fChV, fSortL, frL, frS, fSortB, sRem, sqAt, eIxI, fItm, fItV, chS, sItC, sItA, sItI, sItS, fTmp, Sl.mut, Sl.th, O.d, sqD, D.atm, sTryR, fSq, aConsF, aNilF, eO, sTgF, setFd, Fd.sl, opJoinRev, fLRev, runDef, runDefI, ioAt, insA, chL, getO, setO, getL, setL, obAt, eFd, eFV, eFB, fFld, fMeth, fMethI, fMake, fCallI, aHere, fIsO, sFldS, setF, Rs.fd, Fd.d, O.d, fMethD, chF, sAppF, fPopF, fPop0, fPop1, sIns, sRetI, sRetNI, fZip, fML, opAny, opAll, opSorted, opMaxL, opMinL, opRfind, opCount, List.map_cons, List.map_nil, cInA, cNinA, inD, itD, fItA, eItA, cLtA, cLeA, fRr1, fRr2, opInt, sPar, fCallD, fRaise0, fRaise1, sTryAs, sTry, aftr, noX, allEq_const, fXf, fXi, fLc, lcL, unE, tYs, Vs.ret, xLock, inis, bof, sNil, sSeq, sAsg, sRet, sRetV, sRetN, sIf, sDrop, sTg, sFor, sBrk, sCnt, sApp, sExt, sOwn, sSetI, opSetI, sLock, unlk, sbnd, bnd, fOp, fCh, fCl, fCall, fLst, fTup, fSl, fIf, fAnd, fOr, fNot, fTru, fAndV, fOrV, fNotV, fNeg, fIsi, fM1, fM2, fRg1, fRg2, fEn, fRev, fSg, fTp, fIt, eIt, eB, eV, eC, frz, shm, aCons, aNil, poN, poS, Rs.d, Rs.sl, vB, List.cons_append, List.nil_append, List.append_nil, List.replicate_zero, List.replicate_succ, List.getElem?_cons_zero, List.getElem?_cons_succ, List.set_cons_zero, List.set_cons_succ, List.length_cons, List.length_nil, opLen, lenD, opList, opAdd, opSub, opMul, opMod, opDiv, opPow, opMin, opMax, opIx, opSl, cmpB, cEq, cNe, cIsN, cNotN, truD, tgN, tgT, setAll, isKd, opFind, opFind3, opStarts, opStarts3, Nat.reduceLT, Nat.reduceAdd, Nat.reduceSub, Nat.reduceLeDiff, Int.reduceLT, Int.reduceLE, Int.reduceNeg, reduceIte, and_self, true_and, and_true, decide_true, decide_false, Int.toNat_natCast, decide_eq_true h2, Bool.not_true, Bool.false_eq_true]
    · simp only [sStuck, fLenS, cGtA, sAppQ, sSetQ, sForT, forTL, opSortT, fDItems, fDKeys, fLcO, D.key, fDNew, fDGet, sDPutV, fDSet, fRg3, fChV, fSortL, frL, frS, fSortB, sRem, sqAt, eIxI, fItm, fItV, chS, sItC, sItA, sItI, sItS, fTmp, Sl.mut, Sl.th, O.d, sqD, D.atm, sTryR, fSq, aConsF, aNilF, eO, sTgF, setFd, Fd.sl, opJoinRev, fLRev, runDef, runDefI, ioAt, insA, chL, getO, setO, getL, setL, obAt, eFd, eFV, eFB, fFld, fMeth, fMethI, fMake, fCallI, aHere, fIsO, sFldS, setF, Rs.fd, Fd.d, O.d, fMethD, chF, sAppF, fPopF, fPop0, fPop1, sIns, sRetI, sRetNI, fZip, fML, opAny, opAll, opSorted, opMaxL, opMinL, opRfind, opCount, List.map_cons, List.map_nil, cInA, cNinA, inD, itD, fItA, eItA, cLtA, cLeA, fRr1, fRr2, opInt, sPar, fCallD, fRaise0, fRaise1, sTryAs, sTry, aftr, noX, allEq_const, fXf, fXi, fLc, lcL, unE, tYs, Vs.ret, xLock, inis, bof, sNil, sSeq, sAsg, sRet, sRetV, sRetN, sIf, sDrop, sTg, sFor, sBrk, sCnt, sApp, sExt, sOwn, sSetI, opSetI, sLock, unlk, sbnd, bnd, fOp, fCh, fCl, fCall, fLst, fTup, fSl, fIf, fAnd, fOr, fNot, fTru, fAndV, fOrV, fNotV, fNeg, fIsi, fM1, fM2, fRg1, fRg2, fEn, fRev, fSg, fTp, fIt, eIt, eB, eV, eC, frz, shm, aCons, aNil, poN, poS, Rs.d, Rs.sl, vB, List.cons_append, List.nil_append, List.append_nil, List.replicate_zero, List.replicate_succ, List.getElem?_cons_zero, List.getElem?_cons_succ, List.set_cons_zero, List.set_cons_succ, List.length_cons, List.length_nil, opLen, lenD, opList, opAdd, opSub, opMul, opMod, opDiv, opPow, opMin, opMax, opIx, opSl, cmpB, cEq, cNe, cIsN, cNotN, truD, tgN, tgT, setAll, isKd, opFind, opFind3, opStarts, opStarts3, Nat.reduceLT, Nat.reduceAdd, Nat.reduceSub, Nat.reduceLeDiff, Int.reduceLT, Int.reduceLE, Int.reduceNeg, reduceIte, and_self, true_and, and_true, decide_true, decide_false, Int.toNat_natCast, decide_eq_false h2, Bool.not_false]
theorem e_word_of (L w : List Nat) (M : Int) (hw : w.length ≤ 1000) : g_word_of [.str L, .str w, .int M] = match fb L w M with
    | some k => some (.ex ⟨x_NoWord, some (k : Int)⟩)
    | none => some (.rt (.sh (.str w))) := by
  unfold g_word_of b_word_of
  have z1 : w.length ≤ szl := by show w.length ≤ 1000000; omega
  have hm2 : (w.length : Int) ≤ 1000000 ∧ -1000000 ≤ (w.length : Int) := by omega
  simp only [sStuck, fLenS, cGtA, sAppQ, sSetQ, sForT, forTL, opSortT, fDItems, fDKeys, fLcO, D.key, fDNew, fDGet, sDPutV, fDSet, fRg3, fChV, fSortL, frL, frS, fSortB, sRem, sqAt, eIxI, fItm, fItV, chS, sItC, sItA, sItI, sItS, fTmp, Sl.mut, Sl.th, O.d, sqD, D.atm, sTryR, fSq, aConsF, aNilF, eO, sTgF, setFd, Fd.sl, opJoinRev, fLRev, runDef, runDefI, ioAt, insA, chL, getO, setO, getL, setL, obAt, eFd, eFV, eFB, fFld, fMeth, fMethI, fMake, fCallI, aHere, fIsO, sFldS, setF, Rs.fd, Fd.d, O.d, fMethD, chF, sAppF, fPopF, fPop0, fPop1, sIns, sRetI, sRetNI, fZip, fML, opAny, opAll, opSorted, opMaxL, opMinL, opRfind, opCount, List.map_cons, List.map_nil, cInA, cNinA, inD, itD, fItA, eItA, cLtA, cLeA, fRr1, fRr2, opInt, sPar, fCallD, fRaise0, fRaise1, sTryAs, sTry, aftr, noX, allEq_const, fXf, fXi, fLc, lcL, unE, tYs, Vs.ret, xLock, inis, bof, sNil, sSeq, sAsg, sRet, sRetV, sRetN, sIf, sDrop, sTg, sFor, sBrk, sCnt, sApp, sExt, sOwn, sSetI, opSetI, sLock, unlk, sbnd, bnd, fOp, fCh, fCl, fCall, fLst, fTup, fSl, fIf, fAnd, fOr, fNot, fTru, fAndV, fOrV, fNotV, fNeg, fIsi, fM1, fM2, fRg1, fRg2, fEn, fRev, fSg, fTp, fIt, eIt, eB, eV, eC, frz, shm, aCons, aNil, poN, poS, Rs.d, Rs.sl, vB, List.cons_append, List.nil_append, List.append_nil, List.replicate_zero, List.replicate_succ, List.getElem?_cons_zero, List.getElem?_cons_succ, List.set_cons_zero, List.set_cons_succ, List.length_cons, List.length_nil, opLen, lenD, opList, opAdd, opSub, opMul, opMod, opDiv, opPow, opMin, opMax, opIx, opSl, cmpB, cEq, cNe, cIsN, cNotN, truD, tgN, tgT, setAll, isKd, opFind, opFind3, opStarts, opStarts3, Nat.reduceLT, Nat.reduceAdd, Nat.reduceSub, Nat.reduceLeDiff, Int.reduceLT, Int.reduceLE, Int.reduceNeg, reduceIte, and_self, true_and, and_true, decide_true, decide_false, Int.toNat_natCast, z1, hm2]
  obtain ⟨o, h1, h2⟩ := forL_out (tg := tgN 3) (body := l1_word_of) (fun k e => ∃ s1, e = [.sh (.str L), .sh (.str w), .sh (.int M), s1] ∧ ∀ j, j < k → badAt L w M j = false)
    (fun o => (∃ s1, o = .nx [.sh (.str L), .sh (.str w), .sh (.int M), s1] ∧ fb L w M = none) ∨ ∃ (k : Nat) (e : En), o = .ex ⟨x_NoWord, some (k : Int)⟩ e ∧ fb L w M = some k)
    (rng 0 w.length) 0 [.sh (.str L), .sh (.str w), .sh (.int M), .un] ⟨.un, rfl, fun j hj => by omega⟩ (fun k d e hd ⟨s1, he, hk⟩ => by
      obtain ⟨hi, rfl⟩ := rng_get hd
      subst he
      refine ⟨_, rfl, ?_⟩
      unfold l1_word_of
      have e0 : (0 : Int) + (k : Int) = (k : Int) := by omega
      simp only [sStuck, fLenS, cGtA, sAppQ, sSetQ, sForT, forTL, opSortT, fDItems, fDKeys, fLcO, D.key, fDNew, fDGet, sDPutV, fDSet, fRg3, fChV, fSortL, frL, frS, fSortB, sRem, sqAt, eIxI, fItm, fItV, chS, sItC, sItA, sItI, sItS, fTmp, Sl.mut, Sl.th, O.d, sqD, D.atm, sTryR, fSq, aConsF, aNilF, eO, sTgF, setFd, Fd.sl, opJoinRev, fLRev, runDef, runDefI, ioAt, insA, chL, getO, setO, getL, setL, obAt, eFd, eFV, eFB, fFld, fMeth, fMethI, fMake, fCallI, aHere, fIsO, sFldS, setF, Rs.fd, Fd.d, O.d, fMethD, chF, sAppF, fPopF, fPop0, fPop1, sIns, sRetI, sRetNI, fZip, fML, opAny, opAll, opSorted, opMaxL, opMinL, opRfind, opCount, List.map_cons, List.map_nil, cInA, cNinA, inD, itD, fItA, eItA, cLtA, cLeA, fRr1, fRr2, opInt, sPar, fCallD, fRaise0, fRaise1, sTryAs, sTry, aftr, noX, allEq_const, fXf, fXi, fLc, lcL, unE, tYs, Vs.ret, xLock, inis, bof, sNil, sSeq, sAsg, sRet, sRetV, sRetN, sIf, sDrop, sTg, sFor, sBrk, sCnt, sApp, sExt, sOwn, sSetI, opSetI, sLock, unlk, sbnd, bnd, fOp, fCh, fCl, fCall, fLst, fTup, fSl, fIf, fAnd, fOr, fNot, fTru, fAndV, fOrV, fNotV, fNeg, fIsi, fM1, fM2, fRg1, fRg2, fEn, fRev, fSg, fTp, fIt, eIt, eB, eV, eC, frz, shm, aCons, aNil, poN, poS, Rs.d, Rs.sl, vB, List.cons_append, List.nil_append, List.append_nil, List.replicate_zero, List.replicate_succ, List.getElem?_cons_zero, List.getElem?_cons_succ, List.set_cons_zero, List.set_cons_succ, List.length_cons, List.length_nil, opLen, lenD, opList, opAdd, opSub, opMul, opMod, opDiv, opPow, opMin, opMax, opIx, opSl, cmpB, cEq, cNe, cIsN, cNotN, truD, tgN, tgT, setAll, isKd, opFind, opFind3, opStarts, opStarts3, Nat.reduceLT, Nat.reduceAdd, Nat.reduceSub, Nat.reduceLeDiff, Int.reduceLT, Int.reduceLE, Int.reduceNeg, reduceIte, and_self, true_and, and_true, decide_true, decide_false, Int.toNat_natCast, e0, i_word_of L w M k hw hi]
      cases hb : badAt L w M k with
      | true => exact ⟨_, rfl, .inr ⟨k, _, rfl, fb_hit hi hb fun j hj => hk j (by omega)⟩⟩
      | false =>
        refine ⟨_, rfl, _, rfl, fun j hj => ?_⟩
        rcases Nat.lt_or_ge j k with h | h
        · exact hk j (by omega)
        · have : j = k := by omega
          rw [this]; exact hb) (fun e ⟨s1, he, hk⟩ => .inl ⟨s1, by rw [he], fb_none fun j hj => hk j (by rw [rng_len]; omega)⟩)
  rw [h1]
  rcases h2 with ⟨s1, rfl, h3⟩ | ⟨k, e, rfl, h3⟩
  · rw [h3]; simp only [sStuck, fLenS, cGtA, sAppQ, sSetQ, sForT, forTL, opSortT, fDItems, fDKeys, fLcO, D.key, fDNew, fDGet, sDPutV, fDSet, fRg3, fChV, fSortL, frL, frS, fSortB, sRem, sqAt, eIxI, fItm, fItV, chS, sItC, sItA, sItI, sItS, fTmp, Sl.mut, Sl.th, O.d, sqD, D.atm, sTryR, fSq, aConsF, aNilF, eO, sTgF, setFd, Fd.sl, opJoinRev, fLRev, runDef, runDefI, ioAt, insA, chL, getO, setO, getL, setL, obAt, eFd, eFV, eFB, fFld, fMeth, fMethI, fMake, fCallI, aHere, fIsO, sFldS, setF, Rs.fd, Fd.d, O.d, fMethD, chF, sAppF, fPopF, fPop0, fPop1, sIns, sRetI, sRetNI, fZip, fML, opAny, opAll, opSorted, opMaxL, opMinL, opRfind, opCount, List.map_cons, List.map_nil, cInA, cNinA, inD, itD, fItA, eItA, cLtA, cLeA, fRr1, fRr2, opInt, sPar, fCallD, fRaise0, fRaise1, sTryAs, sTry, aftr, noX, allEq_const, fXf, fXi, fLc, lcL, unE, tYs, Vs.ret, xLock, inis, bof, sNil, sSeq, sAsg, sRet, sRetV, sRetN, sIf, sDrop, sTg, sFor, sBrk, sCnt, sApp, sExt, sOwn, sSetI, opSetI, sLock, unlk, sbnd, bnd, fOp, fCh, fCl, fCall, fLst, fTup, fSl, fIf, fAnd, fOr, fNot, fTru, fAndV, fOrV, fNotV, fNeg, fIsi, fM1, fM2, fRg1, fRg2, fEn, fRev, fSg, fTp, fIt, eIt, eB, eV, eC, frz, shm, aCons, aNil, poN, poS, Rs.d, Rs.sl, vB, List.cons_append, List.nil_append, List.append_nil, List.replicate_zero, List.replicate_succ, List.getElem?_cons_zero, List.getElem?_cons_succ, List.set_cons_zero, List.set_cons_succ, List.length_cons, List.length_nil, opLen, lenD, opList, opAdd, opSub, opMul, opMod, opDiv, opPow, opMin, opMax, opIx, opSl, cmpB, cEq, cNe, cIsN, cNotN, truD, tgN, tgT, setAll, isKd, opFind, opFind3, opStarts, opStarts3, Nat.reduceLT, Nat.reduceAdd, Nat.reduceSub, Nat.reduceLeDiff, Int.reduceLT, Int.reduceLE, Int.reduceNeg, reduceIte, and_self, true_and, and_true, decide_true, decide_false, Int.toNat_natCast]
  · rw [h3]

/-! words read -/
/-- what is wrong, and where -/
def wrg (L w : List Nat) (M : Int) : Option Nat := if w = [46] then none else if w = [] then some 0 else fb L w M
def due (L w : List Nat) (M : Int) : Int := match wrg L w M with
  | some k => (k : Int)
  | none => -1
def told (w : List Nat) : List Nat := if w = [46] then [] else w
theorem e_read_word (L w : List Nat) (M : Int) (hw : w.length ≤ 1000) : g_read_word [.str L, .str w, .int M] = match wrg L w M with
    | some k => some (.ex ⟨x_NoWord, some (k : Int)⟩)
    | none => some (.rt (.sh (.str (told w)))) := by
  unfold g_read_word b_read_word wrg told
  by_cases h1 : w = [46]
  · simp only [sStuck, fLenS, cGtA, sAppQ, sSetQ, sForT, forTL, opSortT, fDItems, fDKeys, fLcO, D.key, fDNew, fDGet, sDPutV, fDSet, fRg3, fChV, fSortL, frL, frS, fSortB, sRem, sqAt, eIxI, fItm, fItV, chS, sItC, sItA, sItI, sItS, fTmp, Sl.mut, Sl.th, O.d, sqD, D.atm, sTryR, fSq, aConsF, aNilF, eO, sTgF, setFd, Fd.sl, opJoinRev, fLRev, runDef, runDefI, ioAt, insA, chL, getO, setO, getL, setL, obAt, eFd, eFV, eFB, fFld, fMeth, fMethI, fMake, fCallI, aHere, fIsO, sFldS, setF, Rs.fd, Fd.d, O.d, fMethD, chF, sAppF, fPopF, fPop0, fPop1, sIns, sRetI, sRetNI, fZip, fML, opAny, opAll, opSorted, opMaxL, opMinL, opRfind, opCount, List.map_cons, List.map_nil, cInA, cNinA, inD, itD, fItA, eItA, cLtA, cLeA, fRr1, fRr2, opInt, sPar, fCallD, fRaise0, fRaise1, sTryAs, sTry, aftr, noX, allEq_const, fXf, fXi, fLc, lcL, unE, tYs, Vs.ret, xLock, inis, bof, sNil, sSeq, sAsg, sRet, sRetV, sRetN, sIf, sDrop, sTg, sFor, sBrk, sCnt, sApp, sExt, sOwn, sSetI, opSetI, sLock, unlk, sbnd, bnd, fOp, fCh, fCl, fCall, fLst, fTup, fSl, fIf, fAnd, fOr, fNot, fTru, fAndV, fOrV, fNotV, fNeg, fIsi, fM1, fM2, fRg1, fRg2, fEn, fRev, fSg, fTp, fIt, eIt, eB, eV, eC, frz, shm, aCons, aNil, poN, poS, Rs.d, Rs.sl, vB, List.cons_append, List.nil_append, List.append_nil, List.replicate_zero, List.replicate_succ, List.getElem?_cons_zero, List.getElem?_cons_succ, List.set_cons_zero, List.set_cons_succ, List.length_cons, List.length_nil, opLen, lenD, opList, opAdd, opSub, opMul, opMod, opDiv, opPow, opMin, opMax, opIx, opSl, cmpB, cEq, cNe, cIsN, cNotN, truD, tgN, tgT, setAll, isKd, opFind, opFind3, opStarts, opStarts3, Nat.reduceLT, Nat.reduceAdd, Nat.reduceSub, Nat.reduceLeDiff, Int.reduceLT, Int.reduceLE, Int.reduceNeg, reduceIte, and_self, true_and, and_true, decide_true, decide_false, Int.toNat_natCast, i1_read_word, decide_eq_true h1, if_pos h1]
  · by_cases h2 : w = []
    · simp only [sStuck, fLenS, cGtA, sAppQ, sSetQ, sForT, forTL, opSortT, fDItems, fDKeys, fLcO, D.key, fDNew, fDGet, sDPutV, fDSet, fRg3, fChV, fSortL, frL, frS, fSortB, sRem, sqAt, eIxI, fItm, fItV, chS, sItC, sItA, sItI, sItS, fTmp, Sl.mut, Sl.th, O.d, sqD, D.atm, sTryR, fSq, aConsF, aNilF, eO, sTgF, setFd, Fd.sl, opJoinRev, fLRev, runDef, runDefI, ioAt, insA, chL, getO, setO, getL, setL, obAt, eFd, eFV, eFB, fFld, fMeth, fMethI, fMake, fCallI, aHere, fIsO, sFldS, setF, Rs.fd, Fd.d, O.d, fMethD, chF, sAppF, fPopF, fPop0, fPop1, sIns, sRetI, sRetNI, fZip, fML, opAny, opAll, opSorted, opMaxL, opMinL, opRfind, opCount, List.map_cons, List.map_nil, cInA, cNinA, inD, itD, fItA, eItA, cLtA, cLeA, fRr1, fRr2, opInt, sPar, fCallD, fRaise0, fRaise1, sTryAs, sTry, aftr, noX, allEq_const, fXf, fXi, fLc, lcL, unE, tYs, Vs.ret, xLock, inis, bof, sNil, sSeq, sAsg, sRet, sRetV, sRetN, sIf, sDrop, sTg, sFor, sBrk, sCnt, sApp, sExt, sOwn, sSetI, opSetI, sLock, unlk, sbnd, bnd, fOp, fCh, fCl, fCall, fLst, fTup, fSl, fIf, fAnd, fOr, fNot, fTru, fAndV, fOrV, fNotV, fNeg, fIsi, fM1, fM2, fRg1, fRg2, fEn, fRev, fSg, fTp, fIt, eIt, eB, eV, eC, frz, shm, aCons, aNil, poN, poS, Rs.d, Rs.sl, vB, List.cons_append, List.nil_append, List.append_nil, List.replicate_zero, List.replicate_succ, List.getElem?_cons_zero, List.getElem?_cons_succ, List.set_cons_zero, List.set_cons_succ, List.length_cons, List.length_nil, opLen, lenD, opList, opAdd, opSub, opMul, opMod, opDiv, opPow, opMin, opMax, opIx, opSl, cmpB, cEq, cNe, cIsN, cNotN, truD, tgN, tgT, setAll, isKd, opFind, opFind3, opStarts, opStarts3, Nat.reduceLT, Nat.reduceAdd, Nat.reduceSub, Nat.reduceLeDiff, Int.reduceLT, Int.reduceLE, Int.reduceNeg, reduceIte, and_self, true_and, and_true, decide_true, decide_false, Int.toNat_natCast, i1_read_word, i2_read_word, decide_eq_false h1, decide_eq_true h2, if_neg h1, if_pos h2]
      rfl
    · simp only [sStuck, fLenS, cGtA, sAppQ, sSetQ, sForT, forTL, opSortT, fDItems, fDKeys, fLcO, D.key, fDNew, fDGet, sDPutV, fDSet, fRg3, fChV, fSortL, frL, frS, fSortB, sRem, sqAt, eIxI, fItm, fItV, chS, sItC, sItA, sItI, sItS, fTmp, Sl.mut, Sl.th, O.d, sqD, D.atm, sTryR, fSq, aConsF, aNilF, eO, sTgF, setFd, Fd.sl, opJoinRev, fLRev, runDef, runDefI, ioAt, insA, chL, getO, setO, getL, setL, obAt, eFd, eFV, eFB, fFld, fMeth, fMethI, fMake, fCallI, aHere, fIsO, sFldS, setF, Rs.fd, Fd.d, O.d, fMethD, chF, sAppF, fPopF, fPop0, fPop1, sIns, sRetI, sRetNI, fZip, fML, opAny, opAll, opSorted, opMaxL, opMinL, opRfind, opCount, List.map_cons, List.map_nil, cInA, cNinA, inD, itD, fItA, eItA, cLtA, cLeA, fRr1, fRr2, opInt, sPar, fCallD, fRaise0, fRaise1, sTryAs, sTry, aftr, noX, allEq_const, fXf, fXi, fLc, lcL, unE, tYs, Vs.ret, xLock, inis, bof, sNil, sSeq, sAsg, sRet, sRetV, sRetN, sIf, sDrop, sTg, sFor, sBrk, sCnt, sApp, sExt, sOwn, sSetI, opSetI, sLock, unlk, sbnd, bnd, fOp, fCh, fCl, fCall, fLst, fTup, fSl, fIf, fAnd, fOr, fNot, fTru, fAndV, fOrV, fNotV, fNeg, fIsi, fM1, fM2, fRg1, fRg2, fEn, fRev, fSg, fTp, fIt, eIt, eB, eV, eC, frz, shm, aCons, aNil, poN, poS, Rs.d, Rs.sl, vB, List.cons_append, List.nil_append, List.append_nil, List.replicate_zero, List.replicate_succ, List.getElem?_cons_zero, List.getElem?_cons_succ, List.set_cons_zero, List.set_cons_succ, List.length_cons, List.length_nil, opLen, lenD, opList, opAdd, opSub, opMul, opMod, opDiv, opPow, opMin, opMax, opIx, opSl, cmpB, cEq, cNe, cIsN, cNotN, truD, tgN, tgT, setAll, isKd, opFind, opFind3, opStarts, opStarts3, Nat.reduceLT, Nat.reduceAdd, Nat.reduceSub, Nat.reduceLeDiff, Int.reduceLT, Int.reduceLE, Int.reduceNeg, reduceIte, and_self, true_and, and_true, decide_true, decide_false, Int.toNat_natCast, i1_read_word, i2_read_word, decide_eq_false h1, decide_eq_false h2, if_neg h1, if_neg h2, e_word_of L w M hw]
      cases fb L w M <;> rfl

/-! a text parted, a pact read -/
def sep3 : List Nat := [32, 61, 32]
def spl (w : List Nat) : Option Nat := (List.range w.length).find? (stB w sep3)
theorem stB_lt {w : List Nat} {k : Nat} (h : stB w sep3 k = true) : k + 3 ≤ w.length := by
  unfold stB at h
  rw [Bool.and_eq_true] at h
  exact of_decide_eq_true h.1
theorem part_spl (w : List Nat) : Txt.partition (S w) (S sep3) = match spl w with
    | none => (S w, S [], S [])
    | some k => (S (w.take k), S sep3, S (w.drop (k + 3))) := by
  have sub : ∀ i j : Nat, Builtin.Str.strSub (S w) i j = S ((w.drop i).take (j - i)) := fun i j => by
    have e := PySem.StrLaws.strSub_toList (S w) i j
    rw [S_cps] at e
    rw [← e]
    show _ = S (Builtin.Str.strSub (S w) i j).cps.toList
    simp [S]
  unfold Txt.partition
  rcases PySem.StrLaws.occ_head_from (S w) (S sep3) 0 1 (Nat.le_refl 1) with ⟨h0, hn⟩ | ⟨k, r, h0, hlo, hk, hn⟩
  · rw [h0]
    have : spl w = none := by
      unfold spl
      rw [List.find?_eq_none]
      intro j _ hj
      have := hn j (Nat.zero_le _)
      rw [at_stB] at this
      exact this hj
    rw [this]
    rfl
  · rw [h0]
    rw [at_stB] at hk
    have : spl w = some k := by
      unfold spl
      rw [List.find?_range_eq_some]
      refine ⟨hk, List.mem_range.mpr (by have := stB_lt hk; omega), fun j hj => ?_⟩
      have := hn j (Nat.zero_le _) hj
      rw [at_stB] at this
      simpa using this
    rw [this]
    dsimp only
    rw [sub, sub]
    have e1 : (w.drop 0).take (k - 0) = w.take k := by simp
    have e2 : (w.drop (k + (S sep3).length)).take ((S w).length - (k + (S sep3).length)) = w.drop (k + 3) := by
      rw [S_len, S_len]
      show (w.drop (k + 3)).take (w.length - (k + 3)) = w.drop (k + 3)
      rw [List.take_of_length_le (by rw [List.length_drop]; omega)]
    rw [e1, e2]
/-- what comes of a text -/
def outc (L w : List Nat) (M : Int) : Option Nat ⊕ (List Nat × List Nat) := match spl w with
  | none => .inl none
  | some k => match wrg L (w.take k) M with
    | some j => .inl (some j)
    | none => match wrg L (w.drop (k + 3)) M with
      | some j => .inl (some j)
      | none => .inr (told (w.take k), told (w.drop (k + 3)))
theorem e_read_pact (L w : List Nat) (M : Int) (hw : w.length ≤ 1000) : g_read_pact [.str L, .str w, .int M] = match outc L w M with
    | .inl none => some (.ex ⟨x_NoPact, none⟩)
    | .inl (some j) => some (.ex ⟨x_NoWord, some (j : Int)⟩)
    | .inr p => some (.rt (.sh (.tup [.str p.1, .str p.2]))) := by
  have hp := part_spl w
  have hp' : Txt.partition (S w) (S [32, 61, 32]) = _ := hp
  have nf : ¬ ([32, 61, 32] : List Nat) = [] := by decide
  have hop : opPart w (.str [32, 61, 32]) = some (.sh (.tup [.str (Txt.partition (S w) (S [32, 61, 32])).1.cps.toList, .str (Txt.partition (S w) (S [32, 61, 32])).2.1.cps.toList, .str (Txt.partition (S w) (S [32, 61, 32])).2.2.cps.toList])) := by
    unfold opPart
    dsimp only
    rw [if_pos ⟨by decide, by show w.length ≤ 1000000; omega⟩]
  unfold g_read_pact b_read_pact i1_read_pact outc
  cases q : spl w with
  | none =>
    rw [q] at hp'
    rw [hp'] at hop
    dsimp only at hop
    rw [S_cps, S_cps] at hop
    simp (disch := first | omega | assumption) only [if_pos, if_neg, decide_eq_true, decide_eq_false, atI_of, cutL_take, cutL_drop, cutL_mid, ge_iff_le, gt_iff_lt, Int.reduceToNat, Int.toNat_zero, Int.toNat_one, Bool.not_true, Bool.not_false, szl, sStuck, fLenS, cGtA, sAppQ, sSetQ, sForT, forTL, opSortT, fDItems, fDKeys, fLcO, D.key, fDNew, fDGet, sDPutV, fDSet, fRg3, fChV, fSortL, frL, frS, fSortB, sRem, sqAt, eIxI, fItm, fItV, chS, sItC, sItA, sItI, sItS, fTmp, Sl.mut, Sl.th, O.d, sqD, D.atm, sTryR, fSq, aConsF, aNilF, eO, sTgF, setFd, Fd.sl, opJoinRev, fLRev, runDef, runDefI, ioAt, insA, chL, getO, setO, getL, setL, obAt, eFd, eFV, eFB, fFld, fMeth, fMethI, fMake, fCallI, aHere, fIsO, sFldS, setF, Rs.fd, Fd.d, O.d, fMethD, chF, sAppF, fPopF, fPop0, fPop1, sIns, sRetI, sRetNI, fZip, fML, opAny, opAll, opSorted, opMaxL, opMinL, opRfind, opCount, List.map_cons, List.map_nil, cInA, cNinA, inD, itD, fItA, eItA, cLtA, cLeA, fRr1, fRr2, opInt, sPar, fCallD, fRaise0, fRaise1, sTryAs, sTry, aftr, noX, allEq_const, fXf, fXi, fLc, lcL, unE, tYs, Vs.ret, xLock, inis, bof, sNil, sSeq, sAsg, sRet, sRetV, sRetN, sIf, sDrop, sTg, sFor, sBrk, sCnt, sApp, sExt, sOwn, sSetI, opSetI, sLock, unlk, sbnd, bnd, fOp, fCh, fCl, fCall, fLst, fTup, fSl, fIf, fAnd, fOr, fNot, fTru, fAndV, fOrV, fNotV, fNeg, fIsi, fM1, fM2, fRg1, fRg2, fEn, fRev, fSg, fTp, fIt, eIt, eB, eV, eC, frz, shm, aCons, aNil, poN, poS, Rs.d, Rs.sl, vB, List.cons_append, List.nil_append, List.append_nil, List.replicate_zero, List.replicate_succ, List.getElem?_cons_zero, List.getElem?_cons_succ, List.set_cons_zero, List.set_cons_succ, List.length_cons, List.length_nil, opLen, lenD, opList, opAdd, opSub, opMul, opMod, opDiv, opPow, opMin, opMax, opIx, opSl, cmpB, cEq, cNe, cIsN, cNotN, truD, tgN, tgT, setAll, isKd, opFind, opFind3, opStarts, opStarts3, Nat.reduceLT, Nat.reduceAdd, Nat.reduceSub, Nat.reduceLeDiff, Int.reduceLT, Int.reduceLE, Int.reduceNeg, reduceIte, and_self, true_and, and_true, decide_true, decide_false, Int.toNat_natCast, hop]
  | some k =>
    rw [q] at hp'
    rw [hp'] at hop
    dsimp only at hop
    rw [S_cps, S_cps, S_cps] at hop
    unfold sep3 at hop
    have e1 := e_read_word L (w.take k) M (by rw [List.length_take]; omega)
    have e2 := e_read_word L (w.drop (k + 3)) M (by rw [List.length_drop]; omega)
    dsimp only
    cases q1 : wrg L (w.take k) M with
    | some j =>
      rw [q1] at e1
      simp (disch := first | omega | assumption) only [if_pos, if_neg, decide_eq_true, decide_eq_false, atI_of, cutL_take, cutL_drop, cutL_mid, ge_iff_le, gt_iff_lt, Int.reduceToNat, Int.toNat_zero, Int.toNat_one, Bool.not_true, Bool.not_false, szl, sStuck, fLenS, cGtA, sAppQ, sSetQ, sForT, forTL, opSortT, fDItems, fDKeys, fLcO, D.key, fDNew, fDGet, sDPutV, fDSet, fRg3, fChV, fSortL, frL, frS, fSortB, sRem, sqAt, eIxI, fItm, fItV, chS, sItC, sItA, sItI, sItS, fTmp, Sl.mut, Sl.th, O.d, sqD, D.atm, sTryR, fSq, aConsF, aNilF, eO, sTgF, setFd, Fd.sl, opJoinRev, fLRev, runDef, runDefI, ioAt, insA, chL, getO, setO, getL, setL, obAt, eFd, eFV, eFB, fFld, fMeth, fMethI, fMake, fCallI, aHere, fIsO, sFldS, setF, Rs.fd, Fd.d, O.d, fMethD, chF, sAppF, fPopF, fPop0, fPop1, sIns, sRetI, sRetNI, fZip, fML, opAny, opAll, opSorted, opMaxL, opMinL, opRfind, opCount, List.map_cons, List.map_nil, cInA, cNinA, inD, itD, fItA, eItA, cLtA, cLeA, fRr1, fRr2, opInt, sPar, fCallD, fRaise0, fRaise1, sTryAs, sTry, aftr, noX, allEq_const, fXf, fXi, fLc, lcL, unE, tYs, Vs.ret, xLock, inis, bof, sNil, sSeq, sAsg, sRet, sRetV, sRetN, sIf, sDrop, sTg, sFor, sBrk, sCnt, sApp, sExt, sOwn, sSetI, opSetI, sLock, unlk, sbnd, bnd, fOp, fCh, fCl, fCall, fLst, fTup, fSl, fIf, fAnd, fOr, fNot, fTru, fAndV, fOrV, fNotV, fNeg, fIsi, fM1, fM2, fRg1, fRg2, fEn, fRev, fSg, fTp, fIt, eIt, eB, eV, eC, frz, shm, aCons, aNil, poN, poS, Rs.d, Rs.sl, vB, List.cons_append, List.nil_append, List.append_nil, List.replicate_zero, List.replicate_succ, List.getElem?_cons_zero, List.getElem?_cons_succ, List.set_cons_zero, List.set_cons_succ, List.length_cons, List.length_nil, opLen, lenD, opList, opAdd, opSub, opMul, opMod, opDiv, opPow, opMin, opMax, opIx, opSl, cmpB, cEq, cNe, cIsN, cNotN, truD, tgN, tgT, setAll, isKd, opFind, opFind3, opStarts, opStarts3, Nat.reduceLT, Nat.reduceAdd, Nat.reduceSub, Nat.reduceLeDiff, Int.reduceLT, Int.reduceLE, Int.reduceNeg, reduceIte, and_self, true_and, and_true, decide_true, decide_false, Int.toNat_natCast, hop, decide_eq_false nf, e1]
    | none =>
      rw [q1] at e1
      dsimp only
      cases q2 : wrg L (w.drop (k + 3)) M with
      | some j =>
        rw [q2] at e2
        simp (disch := first | omega | assumption) only [if_pos, if_neg, decide_eq_true, decide_eq_false, atI_of, cutL_take, cutL_drop, cutL_mid, ge_iff_le, gt_iff_lt, Int.reduceToNat, Int.toNat_zero, Int.toNat_one, Bool.not_true, Bool.not_false, szl, sStuck, fLenS, cGtA, sAppQ, sSetQ, sForT, forTL, opSortT, fDItems, fDKeys, fLcO, D.key, fDNew, fDGet, sDPutV, fDSet, fRg3, fChV, fSortL, frL, frS, fSortB, sRem, sqAt, eIxI, fItm, fItV, chS, sItC, sItA, sItI, sItS, fTmp, Sl.mut, Sl.th, O.d, sqD, D.atm, sTryR, fSq, aConsF, aNilF, eO, sTgF, setFd, Fd.sl, opJoinRev, fLRev, runDef, runDefI, ioAt, insA, chL, getO, setO, getL, setL, obAt, eFd, eFV, eFB, fFld, fMeth, fMethI, fMake, fCallI, aHere, fIsO, sFldS, setF, Rs.fd, Fd.d, O.d, fMethD, chF, sAppF, fPopF, fPop0, fPop1, sIns, sRetI, sRetNI, fZip, fML, opAny, opAll, opSorted, opMaxL, opMinL, opRfind, opCount, List.map_cons, List.map_nil, cInA, cNinA, inD, itD, fItA, eItA, cLtA, cLeA, fRr1, fRr2, opInt, sPar, fCallD, fRaise0, fRaise1, sTryAs, sTry, aftr, noX, allEq_const, fXf, fXi, fLc, lcL, unE, tYs, Vs.ret, xLock, inis, bof, sNil, sSeq, sAsg, sRet, sRetV, sRetN, sIf, sDrop, sTg, sFor, sBrk, sCnt, sApp, sExt, sOwn, sSetI, opSetI, sLock, unlk, sbnd, bnd, fOp, fCh, fCl, fCall, fLst, fTup, fSl, fIf, fAnd, fOr, fNot, fTru, fAndV, fOrV, fNotV, fNeg, fIsi, fM1, fM2, fRg1, fRg2, fEn, fRev, fSg, fTp, fIt, eIt, eB, eV, eC, frz, shm, aCons, aNil, poN, poS, Rs.d, Rs.sl, vB, List.cons_append, List.nil_append, List.append_nil, List.replicate_zero, List.replicate_succ, List.getElem?_cons_zero, List.getElem?_cons_succ, List.set_cons_zero, List.set_cons_succ, List.length_cons, List.length_nil, opLen, lenD, opList, opAdd, opSub, opMul, opMod, opDiv, opPow, opMin, opMax, opIx, opSl, cmpB, cEq, cNe, cIsN, cNotN, truD, tgN, tgT, setAll, isKd, opFind, opFind3, opStarts, opStarts3, Nat.reduceLT, Nat.reduceAdd, Nat.reduceSub, Nat.reduceLeDiff, Int.reduceLT, Int.reduceLE, Int.reduceNeg, reduceIte, and_self, true_and, and_true, decide_true, decide_false, Int.toNat_natCast, hop, decide_eq_false nf, e1, e2]
      | none =>
        rw [q2] at e2
        simp (disch := first | omega | assumption) only [if_pos, if_neg, decide_eq_true, decide_eq_false, atI_of, cutL_take, cutL_drop, cutL_mid, ge_iff_le, gt_iff_lt, Int.reduceToNat, Int.toNat_zero, Int.toNat_one, Bool.not_true, Bool.not_false, szl, sStuck, fLenS, cGtA, sAppQ, sSetQ, sForT, forTL, opSortT, fDItems, fDKeys, fLcO, D.key, fDNew, fDGet, sDPutV, fDSet, fRg3, fChV, fSortL, frL, frS, fSortB, sRem, sqAt, eIxI, fItm, fItV, chS, sItC, sItA, sItI, sItS, fTmp, Sl.mut, Sl.th, O.d, sqD, D.atm, sTryR, fSq, aConsF, aNilF, eO, sTgF, setFd, Fd.sl, opJoinRev, fLRev, runDef, runDefI, ioAt, insA, chL, getO, setO, getL, setL, obAt, eFd, eFV, eFB, fFld, fMeth, fMethI, fMake, fCallI, aHere, fIsO, sFldS, setF, Rs.fd, Fd.d, O.d, fMethD, chF, sAppF, fPopF, fPop0, fPop1, sIns, sRetI, sRetNI, fZip, fML, opAny, opAll, opSorted, opMaxL, opMinL, opRfind, opCount, List.map_cons, List.map_nil, cInA, cNinA, inD, itD, fItA, eItA, cLtA, cLeA, fRr1, fRr2, opInt, sPar, fCallD, fRaise0, fRaise1, sTryAs, sTry, aftr, noX, allEq_const, fXf, fXi, fLc, lcL, unE, tYs, Vs.ret, xLock, inis, bof, sNil, sSeq, sAsg, sRet, sRetV, sRetN, sIf, sDrop, sTg, sFor, sBrk, sCnt, sApp, sExt, sOwn, sSetI, opSetI, sLock, unlk, sbnd, bnd, fOp, fCh, fCl, fCall, fLst, fTup, fSl, fIf, fAnd, fOr, fNot, fTru, fAndV, fOrV, fNotV, fNeg, fIsi, fM1, fM2, fRg1, fRg2, fEn, fRev, fSg, fTp, fIt, eIt, eB, eV, eC, frz, shm, aCons, aNil, poN, poS, Rs.d, Rs.sl, vB, List.cons_append, List.nil_append, List.append_nil, List.replicate_zero, List.replicate_succ, List.getElem?_cons_zero, List.getElem?_cons_succ, List.set_cons_zero, List.set_cons_succ, List.length_cons, List.length_nil, opLen, lenD, opList, opAdd, opSub, opMul, opMod, opDiv, opPow, opMin, opMax, opIx, opSl, cmpB, cEq, cNe, cIsN, cNotN, truD, tgN, tgT, setAll, isKd, opFind, opFind3, opStarts, opStarts3, Nat.reduceLT, Nat.reduceAdd, Nat.reduceSub, Nat.reduceLeDiff, Int.reduceLT, Int.reduceLE, Int.reduceNeg, reduceIte, and_self, true_and, and_true, decide_true, decide_false, Int.toNat_natCast, hop, decide_eq_false nf, e1, e2]

/-! words shown -/
def shw (w : List Nat) : List Nat := if w = [] then [46] else w
theorem e_shown_word (w : List Nat) : g_shown_word [.str w] = some (.rt (.sh (.str (shw w)))) := by
  unfold g_shown_word b_shown_word i1_shown_word shw
  by_cases h : w = []
  · simp (disch := first | omega | assumption) only [if_pos, if_neg, decide_eq_true, decide_eq_false, atI_of, cutL_take, cutL_drop, cutL_mid, ge_iff_le, gt_iff_lt, Int.reduceToNat, Int.toNat_zero, Int.toNat_one, Bool.not_true, Bool.not_false, szl, sStuck, fLenS, cGtA, sAppQ, sSetQ, sForT, forTL, opSortT, fDItems, fDKeys, fLcO, D.key, fDNew, fDGet, sDPutV, fDSet, fRg3, fChV, fSortL, frL, frS, fSortB, sRem, sqAt, eIxI, fItm, fItV, chS, sItC, sItA, sItI, sItS, fTmp, Sl.mut, Sl.th, O.d, sqD, D.atm, sTryR, fSq, aConsF, aNilF, eO, sTgF, setFd, Fd.sl, opJoinRev, fLRev, runDef, runDefI, ioAt, insA, chL, getO, setO, getL, setL, obAt, eFd, eFV, eFB, fFld, fMeth, fMethI, fMake, fCallI, aHere, fIsO, sFldS, setF, Rs.fd, Fd.d, O.d, fMethD, chF, sAppF, fPopF, fPop0, fPop1, sIns, sRetI, sRetNI, fZip, fML, opAny, opAll, opSorted, opMaxL, opMinL, opRfind, opCount, List.map_cons, List.map_nil, cInA, cNinA, inD, itD, fItA, eItA, cLtA, cLeA, fRr1, fRr2, opInt, sPar, fCallD, fRaise0, fRaise1, sTryAs, sTry, aftr, noX, allEq_const, fXf, fXi, fLc, lcL, unE, tYs, Vs.ret, xLock, inis, bof, sNil, sSeq, sAsg, sRet, sRetV, sRetN, sIf, sDrop, sTg, sFor, sBrk, sCnt, sApp, sExt, sOwn, sSetI, opSetI, sLock, unlk, sbnd, bnd, fOp, fCh, fCl, fCall, fLst, fTup, fSl, fIf, fAnd, fOr, fNot, fTru, fAndV, fOrV, fNotV, fNeg, fIsi, fM1, fM2, fRg1, fRg2, fEn, fRev, fSg, fTp, fIt, eIt, eB, eV, eC, frz, shm, aCons, aNil, poN, poS, Rs.d, Rs.sl, vB, List.cons_append, List.nil_append, List.append_nil, List.replicate_zero, List.replicate_succ, List.getElem?_cons_zero, List.getElem?_cons_succ, List.set_cons_zero, List.set_cons_succ, List.length_cons, List.length_nil, opLen, lenD, opList, opAdd, opSub, opMul, opMod, opDiv, opPow, opMin, opMax, opIx, opSl, cmpB, cEq, cNe, cIsN, cNotN, truD, tgN, tgT, setAll, isKd, opFind, opFind3, opStarts, opStarts3, Nat.reduceLT, Nat.reduceAdd, Nat.reduceSub, Nat.reduceLeDiff, Int.reduceLT, Int.reduceLE, Int.reduceNeg, reduceIte, and_self, true_and, and_true, decide_true, decide_false, Int.toNat_natCast, decide_eq_true h, if_pos h]
  · simp (disch := first | omega | assumption) only [if_pos, if_neg, decide_eq_true, decide_eq_false, atI_of, cutL_take, cutL_drop, cutL_mid, ge_iff_le, gt_iff_lt, Int.reduceToNat, Int.toNat_zero, Int.toNat_one, Bool.not_true, Bool.not_false, szl, sStuck, fLenS, cGtA, sAppQ, sSetQ, sForT, forTL, opSortT, fDItems, fDKeys, fLcO, D.key, fDNew, fDGet, sDPutV, fDSet, fRg3, fChV, fSortL, frL, frS, fSortB, sRem, sqAt, eIxI, fItm, fItV, chS, sItC, sItA, sItI, sItS, fTmp, Sl.mut, Sl.th, O.d, sqD, D.atm, sTryR, fSq, aConsF, aNilF, eO, sTgF, setFd, Fd.sl, opJoinRev, fLRev, runDef, runDefI, ioAt, insA, chL, getO, setO, getL, setL, obAt, eFd, eFV, eFB, fFld, fMeth, fMethI, fMake, fCallI, aHere, fIsO, sFldS, setF, Rs.fd, Fd.d, O.d, fMethD, chF, sAppF, fPopF, fPop0, fPop1, sIns, sRetI, sRetNI, fZip, fML, opAny, opAll, opSorted, opMaxL, opMinL, opRfind, opCount, List.map_cons, List.map_nil, cInA, cNinA, inD, itD, fItA, eItA, cLtA, cLeA, fRr1, fRr2, opInt, sPar, fCallD, fRaise0, fRaise1, sTryAs, sTry, aftr, noX, allEq_const, fXf, fXi, fLc, lcL, unE, tYs, Vs.ret, xLock, inis, bof, sNil, sSeq, sAsg, sRet, sRetV, sRetN, sIf, sDrop, sTg, sFor, sBrk, sCnt, sApp, sExt, sOwn, sSetI, opSetI, sLock, unlk, sbnd, bnd, fOp, fCh, fCl, fCall, fLst, fTup, fSl, fIf, fAnd, fOr, fNot, fTru, fAndV, fOrV, fNotV, fNeg, fIsi, fM1, fM2, fRg1, fRg2, fEn, fRev, fSg, fTp, fIt, eIt, eB, eV, eC, frz, shm, aCons, aNil, poN, poS, Rs.d, Rs.sl, vB, List.cons_append, List.nil_append, List.append_nil, List.replicate_zero, List.replicate_succ, List.getElem?_cons_zero, List.getElem?_cons_succ, List.set_cons_zero, List.set_cons_succ, List.length_cons, List.length_nil, opLen, lenD, opList, opAdd, opSub, opMul, opMod, opDiv, opPow, opMin, opMax, opIx, opSl, cmpB, cEq, cNe, cIsN, cNotN, truD, tgN, tgT, setAll, isKd, opFind, opFind3, opStarts, opStarts3, Nat.reduceLT, Nat.reduceAdd, Nat.reduceSub, Nat.reduceLeDiff, Int.reduceLT, Int.reduceLE, Int.reduceNeg, reduceIte, and_self, true_and, and_true, decide_true, decide_false, Int.toNat_natCast, decide_eq_false h, if_neg h]
theorem shw_len {w : List Nat} (h : w.length ≤ 60) : (shw w).length ≤ 60 := by
  unfold shw
  split
  · decide
  · exact h
theorem shw_told {w : List Nat} (h : ∀ c ∈ w, 97 ≤ c ∧ c ≤ 122) : told (shw w) = w := by
  unfold told shw
  by_cases h0 : w = []
  · rw [if_pos h0, if_pos rfl, h0]
  · rw [if_neg h0, if_neg (fun z => by have := h 46 (by rw [z]; simp); omega)]
theorem shw_no32 {w : List Nat} (h : ∀ c ∈ w, 97 ≤ c ∧ c ≤ 122) : 32 ∉ shw w := fun m => by
  unfold shw at m
  split at m
  · simp at m
  · have := h 32 m
    omega
theorem spl_at {a b : List Nat} (h : 32 ∉ a) : spl (a ++ sep3 ++ b) = some a.length := by
  unfold spl
  rw [List.find?_range_eq_some]
  refine ⟨?_, List.mem_range.mpr (by simp [sep3]), fun j hj => ?_⟩
  · unfold stB
    rw [List.append_assoc, List.drop_left, List.take_left]
    simp
  · have : stB (a ++ sep3 ++ b) sep3 j = false := by
      cases q : stB (a ++ sep3 ++ b) sep3 j with
      | false => rfl
      | true =>
        unfold stB at q
        rw [Bool.and_eq_true, beq_iff_eq] at q
        have q2 := q.2
        rw [List.append_assoc, List.drop_append_of_le_length (by omega)] at q2
        have e : a.drop j = a[j] :: a.drop (j + 1) := List.drop_eq_getElem_cons hj
        rw [e] at q2
        have q3 : a[j] :: List.take 2 (a.drop (j + 1) ++ (sep3 ++ b)) = [32, 61, 32] := q2
        have : a[j] = 32 := (List.cons.inj q3).1
        exact absurd (this ▸ List.getElem_mem hj) h
    rw [this]
    rfl
theorem shw_wrg10 {L w : List Nat} (hL : ∀ c ∈ w, c ∈ L) (hl : w.length ≤ 10) : wrg L (shw w) 10 = none := by
  unfold wrg shw
  by_cases h0 : w = []
  · rw [if_pos h0, if_pos rfl]
  · rw [if_neg h0]
    by_cases h1 : w = [46]
    · rw [if_pos h1]
    · rw [if_neg h1, if_neg h0]
      refine fb_none fun j hj => ?_
      unfold badAt
      rw [List.getD_eq_getElem?_getD, List.getElem?_eq_getElem hj, Option.getD_some]
      have m := hL _ (List.getElem_mem hj)
      have n : ¬ (10 : Int) ≤ (j : Int) := by omega
      simp [m, n]
theorem outc_10 {L a b : List Nat} (ha : ∀ c ∈ a, c ∈ L) (hb : ∀ c ∈ b, c ∈ L) (hL : ∀ c ∈ L, 97 ≤ c ∧ c ≤ 122) (la : a.length ≤ 10) (lb : b.length ≤ 10) : outc L (shw a ++ sep3 ++ shw b) 10 = .inr (a, b) := by
  unfold outc
  rw [spl_at (shw_no32 fun c hc => hL c (ha c hc))]
  dsimp only
  have e1 : (shw a ++ sep3 ++ shw b).take (shw a).length = shw a := by rw [List.append_assoc, List.take_left]
  have e2 : (shw a ++ sep3 ++ shw b).drop ((shw a).length + 3) = shw b := by
    have : (shw a).length + 3 = (shw a ++ sep3).length := by simp [sep3]
    rw [this, List.drop_left]
  rw [e1, e2, shw_wrg10 ha la]
  dsimp only
  rw [shw_wrg10 hb lb]
  dsimp only
  rw [shw_told fun c hc => hL c (ha c hc), shw_told fun c hc => hL c (hb c hc)]
theorem e_shown_pact {a b : List Nat} (la : a.length ≤ 60) (lb : b.length ≤ 60) : g_shown_pact [.tup [.str a, .str b]] = some (.rt (.sh (.str (shw a ++ sep3 ++ shw b)))) := by
  have s1 := e_shown_word a
  have s2 := e_shown_word b
  have l1 := shw_len la
  have l2 := shw_len lb
  have l3 : (shw a ++ [32, 61, 32]).length ≤ 100 := by simp; omega
  unfold g_shown_pact b_shown_pact sep3
  simp (disch := first | omega | assumption) only [if_pos, if_neg, decide_eq_true, decide_eq_false, atI_of, cutL_take, cutL_drop, cutL_mid, ge_iff_le, gt_iff_lt, Int.reduceToNat, Int.toNat_zero, Int.toNat_one, Bool.not_true, Bool.not_false, szl, sStuck, fLenS, cGtA, sAppQ, sSetQ, sForT, forTL, opSortT, fDItems, fDKeys, fLcO, D.key, fDNew, fDGet, sDPutV, fDSet, fRg3, fChV, fSortL, frL, frS, fSortB, sRem, sqAt, eIxI, fItm, fItV, chS, sItC, sItA, sItI, sItS, fTmp, Sl.mut, Sl.th, O.d, sqD, D.atm, sTryR, fSq, aConsF, aNilF, eO, sTgF, setFd, Fd.sl, opJoinRev, fLRev, runDef, runDefI, ioAt, insA, chL, getO, setO, getL, setL, obAt, eFd, eFV, eFB, fFld, fMeth, fMethI, fMake, fCallI, aHere, fIsO, sFldS, setF, Rs.fd, Fd.d, O.d, fMethD, chF, sAppF, fPopF, fPop0, fPop1, sIns, sRetI, sRetNI, fZip, fML, opAny, opAll, opSorted, opMaxL, opMinL, opRfind, opCount, List.map_cons, List.map_nil, cInA, cNinA, inD, itD, fItA, eItA, cLtA, cLeA, fRr1, fRr2, opInt, sPar, fCallD, fRaise0, fRaise1, sTryAs, sTry, aftr, noX, allEq_const, fXf, fXi, fLc, lcL, unE, tYs, Vs.ret, xLock, inis, bof, sNil, sSeq, sAsg, sRet, sRetV, sRetN, sIf, sDrop, sTg, sFor, sBrk, sCnt, sApp, sExt, sOwn, sSetI, opSetI, sLock, unlk, sbnd, bnd, fOp, fCh, fCl, fCall, fLst, fTup, fSl, fIf, fAnd, fOr, fNot, fTru, fAndV, fOrV, fNotV, fNeg, fIsi, fM1, fM2, fRg1, fRg2, fEn, fRev, fSg, fTp, fIt, eIt, eB, eV, eC, frz, shm, aCons, aNil, poN, poS, Rs.d, Rs.sl, vB, List.cons_append, List.nil_append, List.append_nil, List.replicate_zero, List.replicate_succ, List.getElem?_cons_zero, List.getElem?_cons_succ, List.set_cons_zero, List.set_cons_succ, List.length_cons, List.length_nil, opLen, lenD, opList, opAdd, opSub, opMul, opMod, opDiv, opPow, opMin, opMax, opIx, opSl, cmpB, cEq, cNe, cIsN, cNotN, truD, tgN, tgT, setAll, isKd, opFind, opFind3, opStarts, opStarts3, Nat.reduceLT, Nat.reduceAdd, Nat.reduceSub, Nat.reduceLeDiff, Int.reduceLT, Int.reduceLE, Int.reduceNeg, reduceIte, and_self, true_and, and_true, decide_true, decide_false, Int.toNat_natCast, s1, s2]

/-! k91: rows -/
inductive Rw
  | drop | len | right
  | wts (Z : List Nat)
  | lets (T : List Nat)
  | pact (a b : List Nat)
def jn (Z : List Nat) : List Nat := TL.joinL [32] (Z.map TL.numL)
def ptx (p : List Nat × List Nat) : List Nat := [112, 97, 99, 116, 32] ++ (shw p.1 ++ sep3 ++ shw p.2)
def Rw.txt : Rw → List Nat
  | .drop => [100, 114, 111, 112]
  | .len => [111, 114, 100, 101, 114, 32, 108, 101, 110, 103, 116, 104]
  | .right => [111, 114, 100, 101, 114, 32, 114, 105, 103, 104, 116]
  | .wts Z => [111, 114, 100, 101, 114, 32, 119, 101, 105, 103, 104, 116, 115, 32] ++ jn Z
  | .lets T => [108, 101, 116, 116, 101, 114, 115, 32] ++ T
  | .pact a b => ptx (a, b)
def inW (L a : List Nat) : Prop := a.length ≤ 10 ∧ ∀ x ∈ a, x ∈ L
def Rw.ok (L : List Nat) : Rw → Prop
  | .wts Z => Z.length = L.length ∧ ∀ z ∈ Z, 1 ≤ z ∧ z ≤ 1000000
  | .lets T => goodL T
  | .pact a b => inW L a ∧ inW L b
  | _ => True
theorem num_len {n : Nat} (h : n < 10000000) : 1 ≤ (TL.numL n).length ∧ (TL.numL n).length ≤ 7 := by
  refine ⟨?_, TL.numL_len (by decide) (by omega)⟩
  rcases Nat.eq_zero_or_pos (TL.numL n).length with q | q
  · exact absurd (List.eq_nil_of_length_eq_zero q) (TL.numL_ne n)
  · exact q
theorem num_str {n : Nat} (h : n < 10000000) : opStr [.int (n : Int)] = some (.sh (.str (TL.numL n))) := by
  unfold opStr
  have h2 : (n : Int).natAbs.log2 < 1920 := by
    rw [Int.natAbs_natCast]
    rcases Nat.eq_zero_or_pos n with q | q
    · subst q; decide
    · have := (Nat.log2_lt (by omega : n ≠ 0)).mpr (show n < 2 ^ 24 by omega)
      omega
  dsimp only
  rw [if_pos h2]
  exact congrArg (fun l => some (Rs.sh (D.str l))) (TL.tl_num n)
theorem num_head : ∀ {n : Nat}, 1 ≤ n → (TL.numL n).head? ≠ some 48
  | n, h => by
    by_cases q : n < 10
    · rw [TL.numL_lt q]
      simp
      omega
    · rw [TL.numL_step (by omega), List.head?_append]
      have ih := num_head (n := n / 10) (by omega)
      cases e : (TL.numL (n / 10)).head? with
      | none => exact absurd (List.head?_eq_none_iff.mp e) (TL.numL_ne _)
      | some c =>
        rw [e] at ih
        exact ih
termination_by n => n
theorem fig_mem {c : Nat} : c ∈ c_FIGURES ↔ 48 ≤ c ∧ c ≤ 57 := by
  unfold c_FIGURES
  simp only [List.mem_cons, List.not_mem_nil, or_false]
  omega
theorem e_weight_of {n : Nat} (h0 : 1 ≤ n) (h : n ≤ 1000000) : g_weight_of [.str (TL.numL n)] = some (.rt (.sh (.int (n : Int)))) := by
  obtain ⟨h1, h4⟩ := num_len (n := n) (by omega)
  have hd : ∀ c ∈ TL.numL n, 48 ≤ c ∧ c ≤ 57 := fun c hc => TL.numL_digits n c hc
  have hint : PySem.intText? (S (TL.numL n)) = some (n : Int) := by
    have e := SX.int_S (a := TL.numL n) (List.all_eq_true.mpr fun c hc => by rw [Bool.and_eq_true, decide_eq_true_iff, decide_eq_true_iff]; exact hd c hc) (TL.numL_ne n) (by omega)
    rw [TL.numL_val] at e
    exact e
  have hh := num_head h0
  rw [List.head?_eq_getElem?] at hh
  obtain ⟨N, hN⟩ : ∃ N, N = TL.numL n := ⟨_, rfl⟩
  rw [← hN] at h1 h4 hd hint hh ⊢
  have hp : 0 < N.length := by omega
  rw [List.getElem?_eq_getElem hp] at hh
  have g2 : ¬ [N[0]] = [48] := fun z => hh (by rw [(List.cons.inj z).1])
  obtain ⟨j, f1⟩ := forL_each (tg := tgN 1) (body := l1_weight_of) (fun (q : Sl) => [.sh (.str N), q]) (fun c : Nat => D.str [c]) N .un fun c hc q => by
    have m : c ∈ c_FIGURES := fig_mem.mpr (hd c hc)
    refine ⟨_, rfl, .sh (.str [c]), .inl ?_⟩
    unfold l1_weight_of i2_weight_of
    simp (disch := first | omega | assumption) only [if_pos, if_neg, decide_eq_true, decide_eq_false, atI_of, cutL_take, cutL_drop, cutL_mid, ge_iff_le, gt_iff_lt, Int.reduceToNat, Int.toNat_zero, Int.toNat_one, Bool.not_true, Bool.not_false, szl, sStuck, fLenS, cGtA, sAppQ, sSetQ, sForT, forTL, opSortT, fDItems, fDKeys, fLcO, D.key, fDNew, fDGet, sDPutV, fDSet, fRg3, fChV, fSortL, frL, frS, fSortB, sRem, sqAt, eIxI, fItm, fItV, chS, sItC, sItA, sItI, sItS, fTmp, Sl.mut, Sl.th, O.d, sqD, D.atm, sTryR, fSq, aConsF, aNilF, eO, sTgF, setFd, Fd.sl, opJoinRev, fLRev, runDef, runDefI, ioAt, insA, chL, getO, setO, getL, setL, obAt, eFd, eFV, eFB, fFld, fMeth, fMethI, fMake, fCallI, aHere, fIsO, sFldS, setF, Rs.fd, Fd.d, O.d, fMethD, chF, sAppF, fPopF, fPop0, fPop1, sIns, sRetI, sRetNI, fZip, fML, opAny, opAll, opSorted, opMaxL, opMinL, opRfind, opCount, List.map_cons, List.map_nil, cInA, cNinA, inD, itD, fItA, eItA, cLtA, cLeA, fRr1, fRr2, opInt, sPar, fCallD, fRaise0, fRaise1, sTryAs, sTry, aftr, noX, allEq_const, fXf, fXi, fLc, lcL, unE, tYs, Vs.ret, xLock, inis, bof, sNil, sSeq, sAsg, sRet, sRetV, sRetN, sIf, sDrop, sTg, sFor, sBrk, sCnt, sApp, sExt, sOwn, sSetI, opSetI, sLock, unlk, sbnd, bnd, fOp, fCh, fCl, fCall, fLst, fTup, fSl, fIf, fAnd, fOr, fNot, fTru, fAndV, fOrV, fNotV, fNeg, fIsi, fM1, fM2, fRg1, fRg2, fEn, fRev, fSg, fTp, fIt, eIt, eB, eV, eC, frz, shm, aCons, aNil, poN, poS, Rs.d, Rs.sl, vB, List.cons_append, List.nil_append, List.append_nil, List.replicate_zero, List.replicate_succ, List.getElem?_cons_zero, List.getElem?_cons_succ, List.set_cons_zero, List.set_cons_succ, List.length_cons, List.length_nil, opLen, lenD, opList, opAdd, opSub, opMul, opMod, opDiv, opPow, opMin, opMax, opIx, opSl, cmpB, cEq, cNe, cIsN, cNotN, truD, tgN, tgT, setAll, isKd, opFind, opFind3, opStarts, opStarts3, Nat.reduceLT, Nat.reduceAdd, Nat.reduceSub, Nat.reduceLeDiff, Int.reduceLT, Int.reduceLE, Int.reduceNeg, reduceIte, and_self, true_and, and_true, decide_true, decide_false, Int.toNat_natCast, cNinA, cInA, cNin, cIn, decide_eq_true m, Bool.not_true]
  have i1 : i1_weight_of [.sh (.str N), .un] = some (.nx [.sh (.str N), .un]) := by
    have a1 : (1 : Int) ≤ (N.length : Int) := by omega
    have a2 : (N.length : Int) ≤ 7 := by omega
    unfold i1_weight_of
    simp (disch := first | omega | assumption) only [if_pos, if_neg, decide_eq_true, decide_eq_false, atI_of, cutL_take, cutL_drop, cutL_mid, ge_iff_le, gt_iff_lt, Int.reduceToNat, Int.toNat_zero, Int.toNat_one, Bool.not_true, Bool.not_false, szl, sStuck, fLenS, cGtA, sAppQ, sSetQ, sForT, forTL, opSortT, fDItems, fDKeys, fLcO, D.key, fDNew, fDGet, sDPutV, fDSet, fRg3, fChV, fSortL, frL, frS, fSortB, sRem, sqAt, eIxI, fItm, fItV, chS, sItC, sItA, sItI, sItS, fTmp, Sl.mut, Sl.th, O.d, sqD, D.atm, sTryR, fSq, aConsF, aNilF, eO, sTgF, setFd, Fd.sl, opJoinRev, fLRev, runDef, runDefI, ioAt, insA, chL, getO, setO, getL, setL, obAt, eFd, eFV, eFB, fFld, fMeth, fMethI, fMake, fCallI, aHere, fIsO, sFldS, setF, Rs.fd, Fd.d, O.d, fMethD, chF, sAppF, fPopF, fPop0, fPop1, sIns, sRetI, sRetNI, fZip, fML, opAny, opAll, opSorted, opMaxL, opMinL, opRfind, opCount, List.map_cons, List.map_nil, cInA, cNinA, inD, itD, fItA, eItA, cLtA, cLeA, fRr1, fRr2, opInt, sPar, fCallD, fRaise0, fRaise1, sTryAs, sTry, aftr, noX, allEq_const, fXf, fXi, fLc, lcL, unE, tYs, Vs.ret, xLock, inis, bof, sNil, sSeq, sAsg, sRet, sRetV, sRetN, sIf, sDrop, sTg, sFor, sBrk, sCnt, sApp, sExt, sOwn, sSetI, opSetI, sLock, unlk, sbnd, bnd, fOp, fCh, fCl, fCall, fLst, fTup, fSl, fIf, fAnd, fOr, fNot, fTru, fAndV, fOrV, fNotV, fNeg, fIsi, fM1, fM2, fRg1, fRg2, fEn, fRev, fSg, fTp, fIt, eIt, eB, eV, eC, frz, shm, aCons, aNil, poN, poS, Rs.d, Rs.sl, vB, List.cons_append, List.nil_append, List.append_nil, List.replicate_zero, List.replicate_succ, List.getElem?_cons_zero, List.getElem?_cons_succ, List.set_cons_zero, List.set_cons_succ, List.length_cons, List.length_nil, opLen, lenD, opList, opAdd, opSub, opMul, opMod, opDiv, opPow, opMin, opMax, opIx, opSl, cmpB, cEq, cNe, cIsN, cNotN, truD, tgN, tgT, setAll, isKd, opFind, opFind3, opStarts, opStarts3, Nat.reduceLT, Nat.reduceAdd, Nat.reduceSub, Nat.reduceLeDiff, Int.reduceLT, Int.reduceLE, Int.reduceNeg, reduceIte, and_self, true_and, and_true, decide_true, decide_false, Int.toNat_natCast, cLeA, decide_eq_true a1, decide_eq_true a2, List.getElem?_eq_getElem hp, decide_eq_false g2]
  unfold g_weight_of b_weight_of
  simp (disch := first | omega | assumption) only [if_pos, if_neg, decide_eq_true, decide_eq_false, atI_of, cutL_take, cutL_drop, cutL_mid, ge_iff_le, gt_iff_lt, Int.reduceToNat, Int.toNat_zero, Int.toNat_one, Bool.not_true, Bool.not_false, szl, sStuck, fLenS, cGtA, sAppQ, sSetQ, sForT, forTL, opSortT, fDItems, fDKeys, fLcO, D.key, fDNew, fDGet, sDPutV, fDSet, fRg3, fChV, fSortL, frL, frS, fSortB, sRem, sqAt, eIxI, fItm, fItV, chS, sItC, sItA, sItI, sItS, fTmp, Sl.mut, Sl.th, O.d, sqD, D.atm, sTryR, fSq, aConsF, aNilF, eO, sTgF, setFd, Fd.sl, opJoinRev, fLRev, runDef, runDefI, ioAt, insA, chL, getO, setO, getL, setL, obAt, eFd, eFV, eFB, fFld, fMeth, fMethI, fMake, fCallI, aHere, fIsO, sFldS, setF, Rs.fd, Fd.d, O.d, fMethD, chF, sAppF, fPopF, fPop0, fPop1, sIns, sRetI, sRetNI, fZip, fML, opAny, opAll, opSorted, opMaxL, opMinL, opRfind, opCount, List.map_cons, List.map_nil, cInA, cNinA, inD, itD, fItA, eItA, cLtA, cLeA, fRr1, fRr2, opInt, sPar, fCallD, fRaise0, fRaise1, sTryAs, sTry, aftr, noX, allEq_const, fXf, fXi, fLc, lcL, unE, tYs, Vs.ret, xLock, inis, bof, sNil, sSeq, sAsg, sRet, sRetV, sRetN, sIf, sDrop, sTg, sFor, sBrk, sCnt, sApp, sExt, sOwn, sSetI, opSetI, sLock, unlk, sbnd, bnd, fOp, fCh, fCl, fCall, fLst, fTup, fSl, fIf, fAnd, fOr, fNot, fTru, fAndV, fOrV, fNotV, fNeg, fIsi, fM1, fM2, fRg1, fRg2, fEn, fRev, fSg, fTp, fIt, eIt, eB, eV, eC, frz, shm, aCons, aNil, poN, poS, Rs.d, Rs.sl, vB, List.cons_append, List.nil_append, List.append_nil, List.replicate_zero, List.replicate_succ, List.getElem?_cons_zero, List.getElem?_cons_succ, List.set_cons_zero, List.set_cons_succ, List.length_cons, List.length_nil, opLen, lenD, opList, opAdd, opSub, opMul, opMod, opDiv, opPow, opMin, opMax, opIx, opSl, cmpB, cEq, cNe, cIsN, cNotN, truD, tgN, tgT, setAll, isKd, opFind, opFind3, opStarts, opStarts3, Nat.reduceLT, Nat.reduceAdd, Nat.reduceSub, Nat.reduceLeDiff, Int.reduceLT, Int.reduceLE, Int.reduceNeg, reduceIte, and_self, true_and, and_true, decide_true, decide_false, Int.toNat_natCast, i1, itD, f1, hint]
theorem sum_num : ∀ {Z : List Nat}, (∀ z ∈ Z, 1 ≤ z ∧ z ≤ 1000000) → ((Z.map TL.numL).map List.length).sum ≤ 7 * Z.length ∧ (jn Z).length ≤ 8 * Z.length
  | [], _ => ⟨Nat.le_refl _, Nat.le_refl _⟩
  | [z], h => by
    have h1 := (num_len (n := z) (by have := h z List.mem_cons_self; omega)).2
    refine ⟨by simpa using h1, ?_⟩
    show (TL.numL z).length ≤ 8
    omega
  | z :: y :: Z, h => by
    have h1 := (num_len (n := z) (by have := h z List.mem_cons_self; omega)).2
    obtain ⟨i1, i2⟩ := sum_num (Z := y :: Z) fun t ht => h t (List.mem_cons_of_mem _ ht)
    refine ⟨?_, ?_⟩
    · rw [List.map_cons, List.map_cons, List.sum_cons, List.length_cons]
      omega
    · have e : jn (z :: y :: Z) = TL.numL z ++ ([32] ++ jn (y :: Z)) := by
        unfold jn
        simp [TL.joinL]
      rw [e, List.length_append, List.length_append, List.length_cons (a := z)]
      show _ + (1 + _) ≤ _
      omega
theorem join_num {Z : List Nat} (hZ : ∀ z ∈ Z, 1 ≤ z ∧ z ≤ 1000000) (hl : Z.length ≤ 1000) : opJoin [32] (.lst ((Z.map TL.numL).map D.str)) = some (.sh (.str (jn Z))) := by
  have h := (sum_num hZ).1
  unfold opJoin
  dsimp only
  rw [allStrs_map]
  dsimp only
  rw [if_pos (by rw [List.length_map]; show _ + Z.length * 1 ≤ 1000000; omega)]
  have e : (Txt.join (S [32]) ((Z.map TL.numL).map S)).cps.toList = jn Z := by
    rw [join_eqS]
    have := TL.tl_join (S [32]) ((Z.map TL.numL).map S)
    have e2 : ((Z.map TL.numL).map S).map TL.tl = Z.map TL.numL := by
      rw [List.map_map]
      conv => rhs; rw [← List.map_id (Z.map TL.numL)]
      exact List.map_congr_left fun x _ => S_cps x
    rw [e2] at this
    rw [show (Str.join (S [32]) ((Z.map TL.numL).map S)).cps.toList = TL.tl (Str.join (S [32]) ((Z.map TL.numL).map S)) from rfl, this]
    show TL.joinL (S [32]).cps.toList _ = _
    rw [S_cps]
    rfl
  rw [e]
theorem split_num {Z : List Nat} (hZ : ∀ z ∈ Z, 1 ≤ z ∧ z ≤ 1000000) (h : Z ≠ []) (hl : Z.length ≤ 1000) : opSplit (jn Z) (.str [32]) = some (.ow ((Z.map TL.numL).map D.str)) := by
  have l := (sum_num hZ).2
  unfold opSplit
  dsimp only
  rw [if_pos ⟨by simp, by show (jn Z).length ≤ 1000000; omega⟩]
  have e1 : Txt.split (S (jn Z)) (S [32]) = (TL.spl [32] 0 [] (jn Z)).map S := SX.split_S (by simp) (by decide)
  have e2 : TL.spl [32] 0 [] (jn Z) = Z.map TL.numL := TL.spl_join (fun z => h (List.map_eq_nil_iff.mp z)) fun p hp => by
    obtain ⟨s, hs', rfl⟩ := List.mem_map.mp hp
    intro m
    have := TL.numL_digits s 32 m
    omega
  rw [e1, e2]
  have e3 : ((Z.map TL.numL).map S).map (fun x => D.str x.cps.toList) = (Z.map TL.numL).map D.str := by
    rw [List.map_map]
    exact List.map_congr_left fun x _ => congrArg D.str (S_cps x)
  rw [e3]
theorem e_shown (w : List Nat) : g_law_shown [.str w] = some (.rt (.sh (.str (shw w)))) := by
  unfold g_law_shown b_law_shown i1_law_shown shw
  by_cases h : w = []
  · simp (disch := first | omega | assumption) only [if_pos, if_neg, decide_eq_true, decide_eq_false, atI_of, cutL_take, cutL_drop, cutL_mid, ge_iff_le, gt_iff_lt, Int.reduceToNat, Int.toNat_zero, Int.toNat_one, Bool.not_true, Bool.not_false, szl, sStuck, fLenS, cGtA, sAppQ, sSetQ, sForT, forTL, opSortT, fDItems, fDKeys, fLcO, D.key, fDNew, fDGet, sDPutV, fDSet, fRg3, fChV, fSortL, frL, frS, fSortB, sRem, sqAt, eIxI, fItm, fItV, chS, sItC, sItA, sItI, sItS, fTmp, Sl.mut, Sl.th, O.d, sqD, D.atm, sTryR, fSq, aConsF, aNilF, eO, sTgF, setFd, Fd.sl, opJoinRev, fLRev, runDef, runDefI, ioAt, insA, chL, getO, setO, getL, setL, obAt, eFd, eFV, eFB, fFld, fMeth, fMethI, fMake, fCallI, aHere, fIsO, sFldS, setF, Rs.fd, Fd.d, O.d, fMethD, chF, sAppF, fPopF, fPop0, fPop1, sIns, sRetI, sRetNI, fZip, fML, opAny, opAll, opSorted, opMaxL, opMinL, opRfind, opCount, List.map_cons, List.map_nil, cInA, cNinA, inD, itD, fItA, eItA, cLtA, cLeA, fRr1, fRr2, opInt, sPar, fCallD, fRaise0, fRaise1, sTryAs, sTry, aftr, noX, allEq_const, fXf, fXi, fLc, lcL, unE, tYs, Vs.ret, xLock, inis, bof, sNil, sSeq, sAsg, sRet, sRetV, sRetN, sIf, sDrop, sTg, sFor, sBrk, sCnt, sApp, sExt, sOwn, sSetI, opSetI, sLock, unlk, sbnd, bnd, fOp, fCh, fCl, fCall, fLst, fTup, fSl, fIf, fAnd, fOr, fNot, fTru, fAndV, fOrV, fNotV, fNeg, fIsi, fM1, fM2, fRg1, fRg2, fEn, fRev, fSg, fTp, fIt, eIt, eB, eV, eC, frz, shm, aCons, aNil, poN, poS, Rs.d, Rs.sl, vB, List.cons_append, List.nil_append, List.append_nil, List.replicate_zero, List.replicate_succ, List.getElem?_cons_zero, List.getElem?_cons_succ, List.set_cons_zero, List.set_cons_succ, List.length_cons, List.length_nil, opLen, lenD, opList, opAdd, opSub, opMul, opMod, opDiv, opPow, opMin, opMax, opIx, opSl, cmpB, cEq, cNe, cIsN, cNotN, truD, tgN, tgT, setAll, isKd, opFind, opFind3, opStarts, opStarts3, Nat.reduceLT, Nat.reduceAdd, Nat.reduceSub, Nat.reduceLeDiff, Int.reduceLT, Int.reduceLE, Int.reduceNeg, reduceIte, and_self, true_and, and_true, decide_true, decide_false, Int.toNat_natCast, decide_eq_true h, if_pos h]
  · simp (disch := first | omega | assumption) only [if_pos, if_neg, decide_eq_true, decide_eq_false, atI_of, cutL_take, cutL_drop, cutL_mid, ge_iff_le, gt_iff_lt, Int.reduceToNat, Int.toNat_zero, Int.toNat_one, Bool.not_true, Bool.not_false, szl, sStuck, fLenS, cGtA, sAppQ, sSetQ, sForT, forTL, opSortT, fDItems, fDKeys, fLcO, D.key, fDNew, fDGet, sDPutV, fDSet, fRg3, fChV, fSortL, frL, frS, fSortB, sRem, sqAt, eIxI, fItm, fItV, chS, sItC, sItA, sItI, sItS, fTmp, Sl.mut, Sl.th, O.d, sqD, D.atm, sTryR, fSq, aConsF, aNilF, eO, sTgF, setFd, Fd.sl, opJoinRev, fLRev, runDef, runDefI, ioAt, insA, chL, getO, setO, getL, setL, obAt, eFd, eFV, eFB, fFld, fMeth, fMethI, fMake, fCallI, aHere, fIsO, sFldS, setF, Rs.fd, Fd.d, O.d, fMethD, chF, sAppF, fPopF, fPop0, fPop1, sIns, sRetI, sRetNI, fZip, fML, opAny, opAll, opSorted, opMaxL, opMinL, opRfind, opCount, List.map_cons, List.map_nil, cInA, cNinA, inD, itD, fItA, eItA, cLtA, cLeA, fRr1, fRr2, opInt, sPar, fCallD, fRaise0, fRaise1, sTryAs, sTry, aftr, noX, allEq_const, fXf, fXi, fLc, lcL, unE, tYs, Vs.ret, xLock, inis, bof, sNil, sSeq, sAsg, sRet, sRetV, sRetN, sIf, sDrop, sTg, sFor, sBrk, sCnt, sApp, sExt, sOwn, sSetI, opSetI, sLock, unlk, sbnd, bnd, fOp, fCh, fCl, fCall, fLst, fTup, fSl, fIf, fAnd, fOr, fNot, fTru, fAndV, fOrV, fNotV, fNeg, fIsi, fM1, fM2, fRg1, fRg2, fEn, fRev, fSg, fTp, fIt, eIt, eB, eV, eC, frz, shm, aCons, aNil, poN, poS, Rs.d, Rs.sl, vB, List.cons_append, List.nil_append, List.append_nil, List.replicate_zero, List.replicate_succ, List.getElem?_cons_zero, List.getElem?_cons_succ, List.set_cons_zero, List.set_cons_succ, List.length_cons, List.length_nil, opLen, lenD, opList, opAdd, opSub, opMul, opMod, opDiv, opPow, opMin, opMax, opIx, opSl, cmpB, cEq, cNe, cIsN, cNotN, truD, tgN, tgT, setAll, isKd, opFind, opFind3, opStarts, opStarts3, Nat.reduceLT, Nat.reduceAdd, Nat.reduceSub, Nat.reduceLeDiff, Int.reduceLT, Int.reduceLE, Int.reduceNeg, reduceIte, and_self, true_and, and_true, decide_true, decide_false, Int.toNat_natCast, decide_eq_false h, if_neg h]
theorem e_row {L : List Nat} (hL : goodL L) (c : Int) (hc : Builtin.Int.intBits c ≤ 1048576) : ∃ r : Rw, g_law_row [.int c, .str L] = some (.rt (.sh (.str r.txt))) ∧ r.ok L := by
  obtain ⟨w, hw, hw2⟩ : ∃ w : Nat, c % 12 = (w : Int) ∧ w < 12 := ⟨(c % 12).toNat, by omega, by omega⟩
  have hL1 := hL.1
  have hL6 := hL.2.1
  obtain ⟨x, hx, hx2⟩ : ∃ x : Nat, c / 12 % 2 = (x : Int) ∧ x < 2 := ⟨(c / 12 % 2).toNat, by omega, by omega⟩
  unfold g_law_row b_law_row i1_law_row i2_law_row i3_law_row i4_law_row
  by_cases w78 : w = 7 ∨ w = 8
  · refine ⟨.drop, ?_, trivial⟩
    rcases w78 with rfl | rfl
    · simp (disch := first | omega | assumption) only [if_pos, if_neg, decide_eq_true, decide_eq_false, atI_of, cutL_take, cutL_drop, cutL_mid, ge_iff_le, gt_iff_lt, Int.reduceToNat, Int.toNat_zero, Int.toNat_one, Bool.not_true, Bool.not_false, szl, sStuck, fLenS, cGtA, sAppQ, sSetQ, sForT, forTL, opSortT, fDItems, fDKeys, fLcO, D.key, fDNew, fDGet, sDPutV, fDSet, fRg3, fChV, fSortL, frL, frS, fSortB, sRem, sqAt, eIxI, fItm, fItV, chS, sItC, sItA, sItI, sItS, fTmp, Sl.mut, Sl.th, O.d, sqD, D.atm, sTryR, fSq, aConsF, aNilF, eO, sTgF, setFd, Fd.sl, opJoinRev, fLRev, runDef, runDefI, ioAt, insA, chL, getO, setO, getL, setL, obAt, eFd, eFV, eFB, fFld, fMeth, fMethI, fMake, fCallI, aHere, fIsO, sFldS, setF, Rs.fd, Fd.d, O.d, fMethD, chF, sAppF, fPopF, fPop0, fPop1, sIns, sRetI, sRetNI, fZip, fML, opAny, opAll, opSorted, opMaxL, opMinL, opRfind, opCount, List.map_cons, List.map_nil, cInA, cNinA, inD, itD, fItA, eItA, cLtA, cLeA, fRr1, fRr2, opInt, sPar, fCallD, fRaise0, fRaise1, sTryAs, sTry, aftr, noX, allEq_const, fXf, fXi, fLc, lcL, unE, tYs, Vs.ret, xLock, inis, bof, sNil, sSeq, sAsg, sRet, sRetV, sRetN, sIf, sDrop, sTg, sFor, sBrk, sCnt, sApp, sExt, sOwn, sSetI, opSetI, sLock, unlk, sbnd, bnd, fOp, fCh, fCl, fCall, fLst, fTup, fSl, fIf, fAnd, fOr, fNot, fTru, fAndV, fOrV, fNotV, fNeg, fIsi, fM1, fM2, fRg1, fRg2, fEn, fRev, fSg, fTp, fIt, eIt, eB, eV, eC, frz, shm, aCons, aNil, poN, poS, Rs.d, Rs.sl, vB, List.cons_append, List.nil_append, List.append_nil, List.replicate_zero, List.replicate_succ, List.getElem?_cons_zero, List.getElem?_cons_succ, List.set_cons_zero, List.set_cons_succ, List.length_cons, List.length_nil, opLen, lenD, opList, opAdd, opSub, opMul, opMod, opDiv, opPow, opMin, opMax, opIx, opSl, cmpB, cEq, cNe, cIsN, cNotN, truD, tgN, tgT, setAll, isKd, opFind, opFind3, opStarts, opStarts3, Nat.reduceLT, Nat.reduceAdd, Nat.reduceSub, Nat.reduceLeDiff, Int.reduceLT, Int.reduceLE, Int.reduceNeg, reduceIte, and_self, true_and, and_true, decide_true, decide_false, Int.toNat_natCast, hw, show ((7 : Nat) : Int) = 7 from rfl, Rw.txt]
    · simp (disch := first | omega | assumption) only [if_pos, if_neg, decide_eq_true, decide_eq_false, atI_of, cutL_take, cutL_drop, cutL_mid, ge_iff_le, gt_iff_lt, Int.reduceToNat, Int.toNat_zero, Int.toNat_one, Bool.not_true, Bool.not_false, szl, sStuck, fLenS, cGtA, sAppQ, sSetQ, sForT, forTL, opSortT, fDItems, fDKeys, fLcO, D.key, fDNew, fDGet, sDPutV, fDSet, fRg3, fChV, fSortL, frL, frS, fSortB, sRem, sqAt, eIxI, fItm, fItV, chS, sItC, sItA, sItI, sItS, fTmp, Sl.mut, Sl.th, O.d, sqD, D.atm, sTryR, fSq, aConsF, aNilF, eO, sTgF, setFd, Fd.sl, opJoinRev, fLRev, runDef, runDefI, ioAt, insA, chL, getO, setO, getL, setL, obAt, eFd, eFV, eFB, fFld, fMeth, fMethI, fMake, fCallI, aHere, fIsO, sFldS, setF, Rs.fd, Fd.d, O.d, fMethD, chF, sAppF, fPopF, fPop0, fPop1, sIns, sRetI, sRetNI, fZip, fML, opAny, opAll, opSorted, opMaxL, opMinL, opRfind, opCount, List.map_cons, List.map_nil, cInA, cNinA, inD, itD, fItA, eItA, cLtA, cLeA, fRr1, fRr2, opInt, sPar, fCallD, fRaise0, fRaise1, sTryAs, sTry, aftr, noX, allEq_const, fXf, fXi, fLc, lcL, unE, tYs, Vs.ret, xLock, inis, bof, sNil, sSeq, sAsg, sRet, sRetV, sRetN, sIf, sDrop, sTg, sFor, sBrk, sCnt, sApp, sExt, sOwn, sSetI, opSetI, sLock, unlk, sbnd, bnd, fOp, fCh, fCl, fCall, fLst, fTup, fSl, fIf, fAnd, fOr, fNot, fTru, fAndV, fOrV, fNotV, fNeg, fIsi, fM1, fM2, fRg1, fRg2, fEn, fRev, fSg, fTp, fIt, eIt, eB, eV, eC, frz, shm, aCons, aNil, poN, poS, Rs.d, Rs.sl, vB, List.cons_append, List.nil_append, List.append_nil, List.replicate_zero, List.replicate_succ, List.getElem?_cons_zero, List.getElem?_cons_succ, List.set_cons_zero, List.set_cons_succ, List.length_cons, List.length_nil, opLen, lenD, opList, opAdd, opSub, opMul, opMod, opDiv, opPow, opMin, opMax, opIx, opSl, cmpB, cEq, cNe, cIsN, cNotN, truD, tgN, tgT, setAll, isKd, opFind, opFind3, opStarts, opStarts3, Nat.reduceLT, Nat.reduceAdd, Nat.reduceSub, Nat.reduceLeDiff, Int.reduceLT, Int.reduceLE, Int.reduceNeg, reduceIte, and_self, true_and, and_true, decide_true, decide_false, Int.toNat_natCast, hw, show ((8 : Nat) : Int) = 8 from rfl, decide_eq_false (show ¬ (8 : Int) = 7 by decide), Rw.txt]
  have n7 : ¬ (w : Int) = 7 := by omega
  have n8 : ¬ (w : Int) = 8 := by omega
  by_cases w9 : w = 9
  · match x, hx2 with
    | 0, _ => exact ⟨.len, by simp (disch := first | omega | assumption) only [if_pos, if_neg, decide_eq_true, decide_eq_false, atI_of, cutL_take, cutL_drop, cutL_mid, ge_iff_le, gt_iff_lt, Int.reduceToNat, Int.toNat_zero, Int.toNat_one, Bool.not_true, Bool.not_false, szl, sStuck, fLenS, cGtA, sAppQ, sSetQ, sForT, forTL, opSortT, fDItems, fDKeys, fLcO, D.key, fDNew, fDGet, sDPutV, fDSet, fRg3, fChV, fSortL, frL, frS, fSortB, sRem, sqAt, eIxI, fItm, fItV, chS, sItC, sItA, sItI, sItS, fTmp, Sl.mut, Sl.th, O.d, sqD, D.atm, sTryR, fSq, aConsF, aNilF, eO, sTgF, setFd, Fd.sl, opJoinRev, fLRev, runDef, runDefI, ioAt, insA, chL, getO, setO, getL, setL, obAt, eFd, eFV, eFB, fFld, fMeth, fMethI, fMake, fCallI, aHere, fIsO, sFldS, setF, Rs.fd, Fd.d, O.d, fMethD, chF, sAppF, fPopF, fPop0, fPop1, sIns, sRetI, sRetNI, fZip, fML, opAny, opAll, opSorted, opMaxL, opMinL, opRfind, opCount, List.map_cons, List.map_nil, cInA, cNinA, inD, itD, fItA, eItA, cLtA, cLeA, fRr1, fRr2, opInt, sPar, fCallD, fRaise0, fRaise1, sTryAs, sTry, aftr, noX, allEq_const, fXf, fXi, fLc, lcL, unE, tYs, Vs.ret, xLock, inis, bof, sNil, sSeq, sAsg, sRet, sRetV, sRetN, sIf, sDrop, sTg, sFor, sBrk, sCnt, sApp, sExt, sOwn, sSetI, opSetI, sLock, unlk, sbnd, bnd, fOp, fCh, fCl, fCall, fLst, fTup, fSl, fIf, fAnd, fOr, fNot, fTru, fAndV, fOrV, fNotV, fNeg, fIsi, fM1, fM2, fRg1, fRg2, fEn, fRev, fSg, fTp, fIt, eIt, eB, eV, eC, frz, shm, aCons, aNil, poN, poS, Rs.d, Rs.sl, vB, List.cons_append, List.nil_append, List.append_nil, List.replicate_zero, List.replicate_succ, List.getElem?_cons_zero, List.getElem?_cons_succ, List.set_cons_zero, List.set_cons_succ, List.length_cons, List.length_nil, opLen, lenD, opList, opAdd, opSub, opMul, opMod, opDiv, opPow, opMin, opMax, opIx, opSl, cmpB, cEq, cNe, cIsN, cNotN, truD, tgN, tgT, setAll, isKd, opFind, opFind3, opStarts, opStarts3, Nat.reduceLT, Nat.reduceAdd, Nat.reduceSub, Nat.reduceLeDiff, Int.reduceLT, Int.reduceLE, Int.reduceNeg, reduceIte, and_self, true_and, and_true, decide_true, decide_false, Int.toNat_natCast, hw, decide_eq_false n7, decide_eq_false n8, decide_eq_true (show (w : Int) = 9 by omega), hx, show ((0 : Nat) : Int) = 0 from rfl, Rw.txt], trivial⟩
    | 1, _ => exact ⟨.right, by simp (disch := first | omega | assumption) only [if_pos, if_neg, decide_eq_true, decide_eq_false, atI_of, cutL_take, cutL_drop, cutL_mid, ge_iff_le, gt_iff_lt, Int.reduceToNat, Int.toNat_zero, Int.toNat_one, Bool.not_true, Bool.not_false, szl, sStuck, fLenS, cGtA, sAppQ, sSetQ, sForT, forTL, opSortT, fDItems, fDKeys, fLcO, D.key, fDNew, fDGet, sDPutV, fDSet, fRg3, fChV, fSortL, frL, frS, fSortB, sRem, sqAt, eIxI, fItm, fItV, chS, sItC, sItA, sItI, sItS, fTmp, Sl.mut, Sl.th, O.d, sqD, D.atm, sTryR, fSq, aConsF, aNilF, eO, sTgF, setFd, Fd.sl, opJoinRev, fLRev, runDef, runDefI, ioAt, insA, chL, getO, setO, getL, setL, obAt, eFd, eFV, eFB, fFld, fMeth, fMethI, fMake, fCallI, aHere, fIsO, sFldS, setF, Rs.fd, Fd.d, O.d, fMethD, chF, sAppF, fPopF, fPop0, fPop1, sIns, sRetI, sRetNI, fZip, fML, opAny, opAll, opSorted, opMaxL, opMinL, opRfind, opCount, List.map_cons, List.map_nil, cInA, cNinA, inD, itD, fItA, eItA, cLtA, cLeA, fRr1, fRr2, opInt, sPar, fCallD, fRaise0, fRaise1, sTryAs, sTry, aftr, noX, allEq_const, fXf, fXi, fLc, lcL, unE, tYs, Vs.ret, xLock, inis, bof, sNil, sSeq, sAsg, sRet, sRetV, sRetN, sIf, sDrop, sTg, sFor, sBrk, sCnt, sApp, sExt, sOwn, sSetI, opSetI, sLock, unlk, sbnd, bnd, fOp, fCh, fCl, fCall, fLst, fTup, fSl, fIf, fAnd, fOr, fNot, fTru, fAndV, fOrV, fNotV, fNeg, fIsi, fM1, fM2, fRg1, fRg2, fEn, fRev, fSg, fTp, fIt, eIt, eB, eV, eC, frz, shm, aCons, aNil, poN, poS, Rs.d, Rs.sl, vB, List.cons_append, List.nil_append, List.append_nil, List.replicate_zero, List.replicate_succ, List.getElem?_cons_zero, List.getElem?_cons_succ, List.set_cons_zero, List.set_cons_succ, List.length_cons, List.length_nil, opLen, lenD, opList, opAdd, opSub, opMul, opMod, opDiv, opPow, opMin, opMax, opIx, opSl, cmpB, cEq, cNe, cIsN, cNotN, truD, tgN, tgT, setAll, isKd, opFind, opFind3, opStarts, opStarts3, Nat.reduceLT, Nat.reduceAdd, Nat.reduceSub, Nat.reduceLeDiff, Int.reduceLT, Int.reduceLE, Int.reduceNeg, reduceIte, and_self, true_and, and_true, decide_true, decide_false, Int.toNat_natCast, hw, decide_eq_false n7, decide_eq_false n8, decide_eq_true (show (w : Int) = 9 by omega), hx, show ((1 : Nat) : Int) = 1 from rfl, Rw.txt], trivial⟩
  have n9 : ¬ (w : Int) = 9 := by omega
  by_cases w10 : w = 10
  · obtain ⟨B, hB, hB1, hB2⟩ : ∃ B : Int, [D.int 9, D.int 1000000][x]? = some (D.int B) ∧ 0 < B ∧ B ≤ 1000000 := by
      match x, hx2 with
      | 0, _ => exact ⟨9, rfl, by decide, by decide⟩
      | 1, _ => exact ⟨1000000, rfl, by decide, by decide⟩
    obtain ⟨z, hz⟩ := Classical.axiomOfChoice (r := fun (k : Nat) (z : Nat) => k < 6 → g_law_mixed [.int (c + (k : Int)), .int ((k : Int) % 4)] = some (.rt (.sh (.int (z : Int))))) fun k => by
      by_cases hk : k < 6
      · obtain ⟨z, z1, z2⟩ := e_mixed (c + (k : Int)) (k % 4) (by omega) (bits_add hc (by decide) (by omega) (by omega))
        refine ⟨z.toNat, fun _ => ?_⟩
        have e1 : ((k % 4 : Nat) : Int) = (k : Int) % 4 := by omega
        have e2 : ((z.toNat : Nat) : Int) = z := by omega
        rw [e1] at z1
        rw [e2]
        exact z1
      · exact ⟨0, fun h => absurd h hk⟩
    obtain ⟨f, hf⟩ : ∃ f : Nat → Nat, f = fun k => (1 + (z k : Int) % B).toNat := ⟨_, rfl⟩
    have fv : ∀ k, ((f k : Nat) : Int) = 1 + (z k : Int) % B ∧ 1 ≤ f k ∧ f k ≤ 1000000 := fun k => by
      have q1 := Int.emod_nonneg (z k : Int) (show B ≠ 0 by omega)
      have q2 := Int.emod_lt_of_pos (z k : Int) hB1
      rw [hf]
      dsimp only
      omega
    obtain ⟨j, f1⟩ := lcL_fun (f := tgN 6) (te := frz (fCl opStr (aCons (frz (fOp opAdd (eC (.int 1)) (frz (fOp opMod (frz (fCall g_law_mixed (aCons (frz (fOp opAdd (eB 0) (eB 6))) (aCons (frz (fOp opMod (eB 6) (eC (.int 4)))) (aNil))))) (fOp opIx (fTup (aCons (eC (.int 9)) (aCons (eC (.int 1000000)) (aNil)))) (frz (fOp opMod (frz (fOp opDiv (eB 0) (eC (.int 12)))) (eC (.int 2))))))))) (aNil)))) (vs := [6]) (fun (_ : Unit) => [.sh (.int c), .sh (.str L), .sh (.int (w : Int)), .un, .un, .un, .un]) (fun (k : Nat) => D.int (0 + (k : Int))) (fun k => D.str (TL.numL (f k))) (List.range L.length) [] () fun k hk _ => by
      have hk := List.mem_range.mp hk
      have e0 : (0 : Int) + (k : Int) = (k : Int) := by omega
      have hzk := hz k (by omega)
      obtain ⟨v1, v2, v3⟩ := fv k
      have hs := num_str (n := f k) (by omega)
      rw [v1] at hs
      refine ⟨_, rfl, [.sh (.int c), .sh (.str L), .sh (.int (w : Int)), .un, .un, .un, .sh (.int (k : Int))], ?_, (), rfl⟩
      simp (disch := first | omega | assumption) only [if_pos, if_neg, decide_eq_true, decide_eq_false, atI_of, cutL_take, cutL_drop, cutL_mid, ge_iff_le, gt_iff_lt, Int.reduceToNat, Int.toNat_zero, Int.toNat_one, Bool.not_true, Bool.not_false, szl, sStuck, fLenS, cGtA, sAppQ, sSetQ, sForT, forTL, opSortT, fDItems, fDKeys, fLcO, D.key, fDNew, fDGet, sDPutV, fDSet, fRg3, fChV, fSortL, frL, frS, fSortB, sRem, sqAt, eIxI, fItm, fItV, chS, sItC, sItA, sItI, sItS, fTmp, Sl.mut, Sl.th, O.d, sqD, D.atm, sTryR, fSq, aConsF, aNilF, eO, sTgF, setFd, Fd.sl, opJoinRev, fLRev, runDef, runDefI, ioAt, insA, chL, getO, setO, getL, setL, obAt, eFd, eFV, eFB, fFld, fMeth, fMethI, fMake, fCallI, aHere, fIsO, sFldS, setF, Rs.fd, Fd.d, O.d, fMethD, chF, sAppF, fPopF, fPop0, fPop1, sIns, sRetI, sRetNI, fZip, fML, opAny, opAll, opSorted, opMaxL, opMinL, opRfind, opCount, List.map_cons, List.map_nil, cInA, cNinA, inD, itD, fItA, eItA, cLtA, cLeA, fRr1, fRr2, opInt, sPar, fCallD, fRaise0, fRaise1, sTryAs, sTry, aftr, noX, allEq_const, fXf, fXi, fLc, lcL, unE, tYs, Vs.ret, xLock, inis, bof, sNil, sSeq, sAsg, sRet, sRetV, sRetN, sIf, sDrop, sTg, sFor, sBrk, sCnt, sApp, sExt, sOwn, sSetI, opSetI, sLock, unlk, sbnd, bnd, fOp, fCh, fCl, fCall, fLst, fTup, fSl, fIf, fAnd, fOr, fNot, fTru, fAndV, fOrV, fNotV, fNeg, fIsi, fM1, fM2, fRg1, fRg2, fEn, fRev, fSg, fTp, fIt, eIt, eB, eV, eC, frz, shm, aCons, aNil, poN, poS, Rs.d, Rs.sl, vB, List.cons_append, List.nil_append, List.append_nil, List.replicate_zero, List.replicate_succ, List.getElem?_cons_zero, List.getElem?_cons_succ, List.set_cons_zero, List.set_cons_succ, List.length_cons, List.length_nil, opLen, lenD, opList, opAdd, opSub, opMul, opMod, opDiv, opPow, opMin, opMax, opIx, opSl, cmpB, cEq, cNe, cIsN, cNotN, truD, tgN, tgT, setAll, isKd, opFind, opFind3, opStarts, opStarts3, Nat.reduceLT, Nat.reduceAdd, Nat.reduceSub, Nat.reduceLeDiff, Int.reduceLT, Int.reduceLE, Int.reduceNeg, reduceIte, and_self, true_and, and_true, decide_true, decide_false, Int.toNat_natCast, e0, hzk, hx, hB, hs]
    have f1' : lcL (tgN 6) tYs (frz (fCl opStr (aCons (frz (fOp opAdd (eC (.int 1)) (frz (fOp opMod (frz (fCall g_law_mixed (aCons (frz (fOp opAdd (eB 0) (eB 6))) (aCons (frz (fOp opMod (eB 6) (eC (.int 4)))) (aNil))))) (fOp opIx (fTup (aCons (eC (.int 9)) (aCons (eC (.int 1000000)) (aNil)))) (frz (fOp opMod (frz (fOp opDiv (eB 0) (eC (.int 12)))) (eC (.int 2))))))))) (aNil)))) [6] (rng 0 L.length) [] [.sh (.int c), .sh (.str L), .sh (.int (w : Int)), .un, .un, .un, .un] = some (.ok (.ow ((((List.range L.length).map f).map TL.numL).map D.str)) [.sh (.int c), .sh (.str L), .sh (.int (w : Int)), .un, .un, .un, .un]) := by
      rw [List.map_map, List.map_map]
      exact f1
    obtain ⟨Z, hZ⟩ : ∃ Z, Z = (List.range L.length).map f := ⟨_, rfl⟩
    rw [← hZ] at f1'
    have hZl : Z.length = L.length := by rw [hZ, List.length_map, List.length_range]
    have hZm : ∀ z ∈ Z, 1 ≤ z ∧ z ≤ 1000000 := fun v hv => by
      rw [hZ] at hv
      obtain ⟨k, _, rfl⟩ := List.mem_map.mp hv
      exact (fv k).2
    have hj := join_num hZm (by omega)
    have hjl := (sum_num hZm).2
    have hrl : (rng 0 L.length).length ≤ 1000000 := by rw [rng_len]; omega
    refine ⟨.wts Z, ?_, hZl, hZm⟩
    simp (disch := first | omega | assumption) only [if_pos, if_neg, decide_eq_true, decide_eq_false, atI_of, cutL_take, cutL_drop, cutL_mid, ge_iff_le, gt_iff_lt, Int.reduceToNat, Int.toNat_zero, Int.toNat_one, Bool.not_true, Bool.not_false, szl, sStuck, fLenS, cGtA, sAppQ, sSetQ, sForT, forTL, opSortT, fDItems, fDKeys, fLcO, D.key, fDNew, fDGet, sDPutV, fDSet, fRg3, fChV, fSortL, frL, frS, fSortB, sRem, sqAt, eIxI, fItm, fItV, chS, sItC, sItA, sItI, sItS, fTmp, Sl.mut, Sl.th, O.d, sqD, D.atm, sTryR, fSq, aConsF, aNilF, eO, sTgF, setFd, Fd.sl, opJoinRev, fLRev, runDef, runDefI, ioAt, insA, chL, getO, setO, getL, setL, obAt, eFd, eFV, eFB, fFld, fMeth, fMethI, fMake, fCallI, aHere, fIsO, sFldS, setF, Rs.fd, Fd.d, O.d, fMethD, chF, sAppF, fPopF, fPop0, fPop1, sIns, sRetI, sRetNI, fZip, fML, opAny, opAll, opSorted, opMaxL, opMinL, opRfind, opCount, List.map_cons, List.map_nil, cInA, cNinA, inD, itD, fItA, eItA, cLtA, cLeA, fRr1, fRr2, opInt, sPar, fCallD, fRaise0, fRaise1, sTryAs, sTry, aftr, noX, allEq_const, fXf, fXi, fLc, lcL, unE, tYs, Vs.ret, xLock, inis, bof, sNil, sSeq, sAsg, sRet, sRetV, sRetN, sIf, sDrop, sTg, sFor, sBrk, sCnt, sApp, sExt, sOwn, sSetI, opSetI, sLock, unlk, sbnd, bnd, fOp, fCh, fCl, fCall, fLst, fTup, fSl, fIf, fAnd, fOr, fNot, fTru, fAndV, fOrV, fNotV, fNeg, fIsi, fM1, fM2, fRg1, fRg2, fEn, fRev, fSg, fTp, fIt, eIt, eB, eV, eC, frz, shm, aCons, aNil, poN, poS, Rs.d, Rs.sl, vB, List.cons_append, List.nil_append, List.append_nil, List.replicate_zero, List.replicate_succ, List.getElem?_cons_zero, List.getElem?_cons_succ, List.set_cons_zero, List.set_cons_succ, List.length_cons, List.length_nil, opLen, lenD, opList, opAdd, opSub, opMul, opMod, opDiv, opPow, opMin, opMax, opIx, opSl, cmpB, cEq, cNe, cIsN, cNotN, truD, tgN, tgT, setAll, isKd, opFind, opFind3, opStarts, opStarts3, Nat.reduceLT, Nat.reduceAdd, Nat.reduceSub, Nat.reduceLeDiff, Int.reduceLT, Int.reduceLE, Int.reduceNeg, reduceIte, and_self, true_and, and_true, decide_true, decide_false, Int.toNat_natCast] at f1'
    simp (disch := first | omega | assumption) only [if_pos, if_neg, decide_eq_true, decide_eq_false, atI_of, cutL_take, cutL_drop, cutL_mid, ge_iff_le, gt_iff_lt, Int.reduceToNat, Int.toNat_zero, Int.toNat_one, Bool.not_true, Bool.not_false, szl, sStuck, fLenS, cGtA, sAppQ, sSetQ, sForT, forTL, opSortT, fDItems, fDKeys, fLcO, D.key, fDNew, fDGet, sDPutV, fDSet, fRg3, fChV, fSortL, frL, frS, fSortB, sRem, sqAt, eIxI, fItm, fItV, chS, sItC, sItA, sItI, sItS, fTmp, Sl.mut, Sl.th, O.d, sqD, D.atm, sTryR, fSq, aConsF, aNilF, eO, sTgF, setFd, Fd.sl, opJoinRev, fLRev, runDef, runDefI, ioAt, insA, chL, getO, setO, getL, setL, obAt, eFd, eFV, eFB, fFld, fMeth, fMethI, fMake, fCallI, aHere, fIsO, sFldS, setF, Rs.fd, Fd.d, O.d, fMethD, chF, sAppF, fPopF, fPop0, fPop1, sIns, sRetI, sRetNI, fZip, fML, opAny, opAll, opSorted, opMaxL, opMinL, opRfind, opCount, List.map_cons, List.map_nil, cInA, cNinA, inD, itD, fItA, eItA, cLtA, cLeA, fRr1, fRr2, opInt, sPar, fCallD, fRaise0, fRaise1, sTryAs, sTry, aftr, noX, allEq_const, fXf, fXi, fLc, lcL, unE, tYs, Vs.ret, xLock, inis, bof, sNil, sSeq, sAsg, sRet, sRetV, sRetN, sIf, sDrop, sTg, sFor, sBrk, sCnt, sApp, sExt, sOwn, sSetI, opSetI, sLock, unlk, sbnd, bnd, fOp, fCh, fCl, fCall, fLst, fTup, fSl, fIf, fAnd, fOr, fNot, fTru, fAndV, fOrV, fNotV, fNeg, fIsi, fM1, fM2, fRg1, fRg2, fEn, fRev, fSg, fTp, fIt, eIt, eB, eV, eC, frz, shm, aCons, aNil, poN, poS, Rs.d, Rs.sl, vB, List.cons_append, List.nil_append, List.append_nil, List.replicate_zero, List.replicate_succ, List.getElem?_cons_zero, List.getElem?_cons_succ, List.set_cons_zero, List.set_cons_succ, List.length_cons, List.length_nil, opLen, lenD, opList, opAdd, opSub, opMul, opMod, opDiv, opPow, opMin, opMax, opIx, opSl, cmpB, cEq, cNe, cIsN, cNotN, truD, tgN, tgT, setAll, isKd, opFind, opFind3, opStarts, opStarts3, Nat.reduceLT, Nat.reduceAdd, Nat.reduceSub, Nat.reduceLeDiff, Int.reduceLT, Int.reduceLE, Int.reduceNeg, reduceIte, and_self, true_and, and_true, decide_true, decide_false, Int.toNat_natCast, hw, decide_eq_false n7, decide_eq_false n8, decide_eq_false n9, decide_eq_true (show (w : Int) = 10 by omega), f1', hj, Rw.txt]
  have n10 : ¬ (w : Int) = 10 := by omega
  obtain ⟨a, b, p1, p2, p3⟩ := e_pact L (c / 12) (by omega) (by omega) (Nat.le_trans (bits_div hc) (by decide))
  have s1 := e_shown a
  have s2 := e_shown b
  have l1 := shw_len (w := a) (by omega)
  have l2 := shw_len (w := b) (by omega)
  have hp : ∀ i4, i4 [.sh (.int c), .sh (.str L), .sh (.int (w : Int)), .un, .un, .un, .un] = some (.nx [.sh (.int c), .sh (.str L), .sh (.int (w : Int)), .un, .un, .un, .un]) → fin (sSeq i4 (sSeq (sTg (tgT [4, 5]) (frz (fCall g_law_pact (aCons (frz (fOp opDiv (eB 0) (eC (.int 12)))) (aCons (eB 1) (aCons (eC (.int 10)) (aNil))))))) (sRet (fOp opAdd (frz (fOp opAdd (frz (fOp opAdd (eC (.str [112, 97, 99, 116, 32])) (frz (fCall g_law_shown (aCons (eV 4) (aNil)))))) (eC (.str [32, 61, 32])))) (frz (fCall g_law_shown (aCons (eV 5) (aNil))))))) [.sh (.int c), .sh (.str L), .sh (.int (w : Int)), .un, .un, .un, .un]) = some (.rt (.sh (.str (ptx (a, b))))) := fun i4 h4 => by
    refine fin_seq h4 ?_
    have e : ptx (a, b) = [112, 97, 99, 116, 32] ++ shw a ++ [32, 61, 32] ++ shw b := by
      unfold ptx sep3
      simp only [List.append_assoc]
    rw [e]
    have z2 : (shw a ++ [32, 61, 32]).length ≤ 100 := by rw [List.length_append]; simp; omega
    refine fin_seq (e1 := [.sh (.int c), .sh (.str L), .sh (.int (w : Int)), .un, .sh (.str a), .sh (.str b), .un]) (by simp (disch := first | omega | assumption) only [if_pos, if_neg, decide_eq_true, decide_eq_false, atI_of, cutL_take, cutL_drop, cutL_mid, ge_iff_le, gt_iff_lt, Int.reduceToNat, Int.toNat_zero, Int.toNat_one, Bool.not_true, Bool.not_false, szl, sStuck, fLenS, cGtA, sAppQ, sSetQ, sForT, forTL, opSortT, fDItems, fDKeys, fLcO, D.key, fDNew, fDGet, sDPutV, fDSet, fRg3, fChV, fSortL, frL, frS, fSortB, sRem, sqAt, eIxI, fItm, fItV, chS, sItC, sItA, sItI, sItS, fTmp, Sl.mut, Sl.th, O.d, sqD, D.atm, sTryR, fSq, aConsF, aNilF, eO, sTgF, setFd, Fd.sl, opJoinRev, fLRev, runDef, runDefI, ioAt, insA, chL, getO, setO, getL, setL, obAt, eFd, eFV, eFB, fFld, fMeth, fMethI, fMake, fCallI, aHere, fIsO, sFldS, setF, Rs.fd, Fd.d, O.d, fMethD, chF, sAppF, fPopF, fPop0, fPop1, sIns, sRetI, sRetNI, fZip, fML, opAny, opAll, opSorted, opMaxL, opMinL, opRfind, opCount, List.map_cons, List.map_nil, cInA, cNinA, inD, itD, fItA, eItA, cLtA, cLeA, fRr1, fRr2, opInt, sPar, fCallD, fRaise0, fRaise1, sTryAs, sTry, aftr, noX, allEq_const, fXf, fXi, fLc, lcL, unE, tYs, Vs.ret, xLock, inis, bof, sNil, sSeq, sAsg, sRet, sRetV, sRetN, sIf, sDrop, sTg, sFor, sBrk, sCnt, sApp, sExt, sOwn, sSetI, opSetI, sLock, unlk, sbnd, bnd, fOp, fCh, fCl, fCall, fLst, fTup, fSl, fIf, fAnd, fOr, fNot, fTru, fAndV, fOrV, fNotV, fNeg, fIsi, fM1, fM2, fRg1, fRg2, fEn, fRev, fSg, fTp, fIt, eIt, eB, eV, eC, frz, shm, aCons, aNil, poN, poS, Rs.d, Rs.sl, vB, List.cons_append, List.nil_append, List.append_nil, List.replicate_zero, List.replicate_succ, List.getElem?_cons_zero, List.getElem?_cons_succ, List.set_cons_zero, List.set_cons_succ, List.length_cons, List.length_nil, opLen, lenD, opList, opAdd, opSub, opMul, opMod, opDiv, opPow, opMin, opMax, opIx, opSl, cmpB, cEq, cNe, cIsN, cNotN, truD, tgN, tgT, setAll, isKd, opFind, opFind3, opStarts, opStarts3, Nat.reduceLT, Nat.reduceAdd, Nat.reduceSub, Nat.reduceLeDiff, Int.reduceLT, Int.reduceLE, Int.reduceNeg, reduceIte, and_self, true_and, and_true, decide_true, decide_false, Int.toNat_natCast, p1]) ?_
    simp (disch := first | omega | assumption) only [if_pos, if_neg, decide_eq_true, decide_eq_false, atI_of, cutL_take, cutL_drop, cutL_mid, ge_iff_le, gt_iff_lt, Int.reduceToNat, Int.toNat_zero, Int.toNat_one, Bool.not_true, Bool.not_false, szl, sStuck, fLenS, cGtA, sAppQ, sSetQ, sForT, forTL, opSortT, fDItems, fDKeys, fLcO, D.key, fDNew, fDGet, sDPutV, fDSet, fRg3, fChV, fSortL, frL, frS, fSortB, sRem, sqAt, eIxI, fItm, fItV, chS, sItC, sItA, sItI, sItS, fTmp, Sl.mut, Sl.th, O.d, sqD, D.atm, sTryR, fSq, aConsF, aNilF, eO, sTgF, setFd, Fd.sl, opJoinRev, fLRev, runDef, runDefI, ioAt, insA, chL, getO, setO, getL, setL, obAt, eFd, eFV, eFB, fFld, fMeth, fMethI, fMake, fCallI, aHere, fIsO, sFldS, setF, Rs.fd, Fd.d, O.d, fMethD, chF, sAppF, fPopF, fPop0, fPop1, sIns, sRetI, sRetNI, fZip, fML, opAny, opAll, opSorted, opMaxL, opMinL, opRfind, opCount, List.map_cons, List.map_nil, cInA, cNinA, inD, itD, fItA, eItA, cLtA, cLeA, fRr1, fRr2, opInt, sPar, fCallD, fRaise0, fRaise1, sTryAs, sTry, aftr, noX, allEq_const, fXf, fXi, fLc, lcL, unE, tYs, Vs.ret, xLock, inis, bof, sNil, sSeq, sAsg, sRet, sRetV, sRetN, sIf, sDrop, sTg, sFor, sBrk, sCnt, sApp, sExt, sOwn, sSetI, opSetI, sLock, unlk, sbnd, bnd, fOp, fCh, fCl, fCall, fLst, fTup, fSl, fIf, fAnd, fOr, fNot, fTru, fAndV, fOrV, fNotV, fNeg, fIsi, fM1, fM2, fRg1, fRg2, fEn, fRev, fSg, fTp, fIt, eIt, eB, eV, eC, frz, shm, aCons, aNil, poN, poS, Rs.d, Rs.sl, vB, List.cons_append, List.nil_append, List.append_nil, List.replicate_zero, List.replicate_succ, List.getElem?_cons_zero, List.getElem?_cons_succ, List.set_cons_zero, List.set_cons_succ, List.length_cons, List.length_nil, opLen, lenD, opList, opAdd, opSub, opMul, opMod, opDiv, opPow, opMin, opMax, opIx, opSl, cmpB, cEq, cNe, cIsN, cNotN, truD, tgN, tgT, setAll, isKd, opFind, opFind3, opStarts, opStarts3, Nat.reduceLT, Nat.reduceAdd, Nat.reduceSub, Nat.reduceLeDiff, Int.reduceLT, Int.reduceLE, Int.reduceNeg, reduceIte, and_self, true_and, and_true, decide_true, decide_false, Int.toNat_natCast, s1, s2, fin]
  obtain ⟨y, hy, hy4⟩ : ∃ y : Nat, c / 12 % 4 = (y : Int) ∧ y < 4 := ⟨(c / 12 % 4).toNat, by omega, by omega⟩
  by_cases w11 : w = 11
  · have m11 : (w : Int) = 11 := by omega
    by_cases y1 : y = 1
    · obtain ⟨q, q1, q2⟩ := e_mixed c 3 (by decide) (Nat.le_trans hc (by decide))
      have q1' : g_law_mixed [.int c, .int 3] = some (.rt (.sh (.int q))) := q1
      obtain ⟨T, t1, t2⟩ := e_letters q
      have t3 := t2.2.1
      refine ⟨.lets T, ?_, t2⟩
      simp (disch := first | omega | assumption) only [if_pos, if_neg, decide_eq_true, decide_eq_false, atI_of, cutL_take, cutL_drop, cutL_mid, ge_iff_le, gt_iff_lt, Int.reduceToNat, Int.toNat_zero, Int.toNat_one, Bool.not_true, Bool.not_false, szl, sStuck, fLenS, cGtA, sAppQ, sSetQ, sForT, forTL, opSortT, fDItems, fDKeys, fLcO, D.key, fDNew, fDGet, sDPutV, fDSet, fRg3, fChV, fSortL, frL, frS, fSortB, sRem, sqAt, eIxI, fItm, fItV, chS, sItC, sItA, sItI, sItS, fTmp, Sl.mut, Sl.th, O.d, sqD, D.atm, sTryR, fSq, aConsF, aNilF, eO, sTgF, setFd, Fd.sl, opJoinRev, fLRev, runDef, runDefI, ioAt, insA, chL, getO, setO, getL, setL, obAt, eFd, eFV, eFB, fFld, fMeth, fMethI, fMake, fCallI, aHere, fIsO, sFldS, setF, Rs.fd, Fd.d, O.d, fMethD, chF, sAppF, fPopF, fPop0, fPop1, sIns, sRetI, sRetNI, fZip, fML, opAny, opAll, opSorted, opMaxL, opMinL, opRfind, opCount, List.map_cons, List.map_nil, cInA, cNinA, inD, itD, fItA, eItA, cLtA, cLeA, fRr1, fRr2, opInt, sPar, fCallD, fRaise0, fRaise1, sTryAs, sTry, aftr, noX, allEq_const, fXf, fXi, fLc, lcL, unE, tYs, Vs.ret, xLock, inis, bof, sNil, sSeq, sAsg, sRet, sRetV, sRetN, sIf, sDrop, sTg, sFor, sBrk, sCnt, sApp, sExt, sOwn, sSetI, opSetI, sLock, unlk, sbnd, bnd, fOp, fCh, fCl, fCall, fLst, fTup, fSl, fIf, fAnd, fOr, fNot, fTru, fAndV, fOrV, fNotV, fNeg, fIsi, fM1, fM2, fRg1, fRg2, fEn, fRev, fSg, fTp, fIt, eIt, eB, eV, eC, frz, shm, aCons, aNil, poN, poS, Rs.d, Rs.sl, vB, List.cons_append, List.nil_append, List.append_nil, List.replicate_zero, List.replicate_succ, List.getElem?_cons_zero, List.getElem?_cons_succ, List.set_cons_zero, List.set_cons_succ, List.length_cons, List.length_nil, opLen, lenD, opList, opAdd, opSub, opMul, opMod, opDiv, opPow, opMin, opMax, opIx, opSl, cmpB, cEq, cNe, cIsN, cNotN, truD, tgN, tgT, setAll, isKd, opFind, opFind3, opStarts, opStarts3, Nat.reduceLT, Nat.reduceAdd, Nat.reduceSub, Nat.reduceLeDiff, Int.reduceLT, Int.reduceLE, Int.reduceNeg, reduceIte, and_self, true_and, and_true, decide_true, decide_false, Int.toNat_natCast, hw, decide_eq_false n7, decide_eq_false n8, decide_eq_false n9, decide_eq_false n10, decide_eq_true m11, hy, decide_eq_true (show (y : Int) = 1 by omega), q1', t1, Rw.txt]
    · refine ⟨.pact a b, ?_, p2, p3⟩
      refine run_fin ?_
      refine fin_seq (by simp (disch := first | omega | assumption) only [if_pos, if_neg, decide_eq_true, decide_eq_false, atI_of, cutL_take, cutL_drop, cutL_mid, ge_iff_le, gt_iff_lt, Int.reduceToNat, Int.toNat_zero, Int.toNat_one, Bool.not_true, Bool.not_false, szl, sStuck, fLenS, cGtA, sAppQ, sSetQ, sForT, forTL, opSortT, fDItems, fDKeys, fLcO, D.key, fDNew, fDGet, sDPutV, fDSet, fRg3, fChV, fSortL, frL, frS, fSortB, sRem, sqAt, eIxI, fItm, fItV, chS, sItC, sItA, sItI, sItS, fTmp, Sl.mut, Sl.th, O.d, sqD, D.atm, sTryR, fSq, aConsF, aNilF, eO, sTgF, setFd, Fd.sl, opJoinRev, fLRev, runDef, runDefI, ioAt, insA, chL, getO, setO, getL, setL, obAt, eFd, eFV, eFB, fFld, fMeth, fMethI, fMake, fCallI, aHere, fIsO, sFldS, setF, Rs.fd, Fd.d, O.d, fMethD, chF, sAppF, fPopF, fPop0, fPop1, sIns, sRetI, sRetNI, fZip, fML, opAny, opAll, opSorted, opMaxL, opMinL, opRfind, opCount, List.map_cons, List.map_nil, cInA, cNinA, inD, itD, fItA, eItA, cLtA, cLeA, fRr1, fRr2, opInt, sPar, fCallD, fRaise0, fRaise1, sTryAs, sTry, aftr, noX, allEq_const, fXf, fXi, fLc, lcL, unE, tYs, Vs.ret, xLock, inis, bof, sNil, sSeq, sAsg, sRet, sRetV, sRetN, sIf, sDrop, sTg, sFor, sBrk, sCnt, sApp, sExt, sOwn, sSetI, opSetI, sLock, unlk, sbnd, bnd, fOp, fCh, fCl, fCall, fLst, fTup, fSl, fIf, fAnd, fOr, fNot, fTru, fAndV, fOrV, fNotV, fNeg, fIsi, fM1, fM2, fRg1, fRg2, fEn, fRev, fSg, fTp, fIt, eIt, eB, eV, eC, frz, shm, aCons, aNil, poN, poS, Rs.d, Rs.sl, vB, List.cons_append, List.nil_append, List.append_nil, List.replicate_zero, List.replicate_succ, List.getElem?_cons_zero, List.getElem?_cons_succ, List.set_cons_zero, List.set_cons_succ, List.length_cons, List.length_nil, opLen, lenD, opList, opAdd, opSub, opMul, opMod, opDiv, opPow, opMin, opMax, opIx, opSl, cmpB, cEq, cNe, cIsN, cNotN, truD, tgN, tgT, setAll, isKd, opFind, opFind3, opStarts, opStarts3, Nat.reduceLT, Nat.reduceAdd, Nat.reduceSub, Nat.reduceLeDiff, Int.reduceLT, Int.reduceLE, Int.reduceNeg, reduceIte, and_self, true_and, and_true, decide_true, decide_false, Int.toNat_natCast, hw]; exact rfl) ?_
      refine fin_seq (by simp (disch := first | omega | assumption) only [if_pos, if_neg, decide_eq_true, decide_eq_false, atI_of, cutL_take, cutL_drop, cutL_mid, ge_iff_le, gt_iff_lt, Int.reduceToNat, Int.toNat_zero, Int.toNat_one, Bool.not_true, Bool.not_false, szl, sStuck, fLenS, cGtA, sAppQ, sSetQ, sForT, forTL, opSortT, fDItems, fDKeys, fLcO, D.key, fDNew, fDGet, sDPutV, fDSet, fRg3, fChV, fSortL, frL, frS, fSortB, sRem, sqAt, eIxI, fItm, fItV, chS, sItC, sItA, sItI, sItS, fTmp, Sl.mut, Sl.th, O.d, sqD, D.atm, sTryR, fSq, aConsF, aNilF, eO, sTgF, setFd, Fd.sl, opJoinRev, fLRev, runDef, runDefI, ioAt, insA, chL, getO, setO, getL, setL, obAt, eFd, eFV, eFB, fFld, fMeth, fMethI, fMake, fCallI, aHere, fIsO, sFldS, setF, Rs.fd, Fd.d, O.d, fMethD, chF, sAppF, fPopF, fPop0, fPop1, sIns, sRetI, sRetNI, fZip, fML, opAny, opAll, opSorted, opMaxL, opMinL, opRfind, opCount, List.map_cons, List.map_nil, cInA, cNinA, inD, itD, fItA, eItA, cLtA, cLeA, fRr1, fRr2, opInt, sPar, fCallD, fRaise0, fRaise1, sTryAs, sTry, aftr, noX, allEq_const, fXf, fXi, fLc, lcL, unE, tYs, Vs.ret, xLock, inis, bof, sNil, sSeq, sAsg, sRet, sRetV, sRetN, sIf, sDrop, sTg, sFor, sBrk, sCnt, sApp, sExt, sOwn, sSetI, opSetI, sLock, unlk, sbnd, bnd, fOp, fCh, fCl, fCall, fLst, fTup, fSl, fIf, fAnd, fOr, fNot, fTru, fAndV, fOrV, fNotV, fNeg, fIsi, fM1, fM2, fRg1, fRg2, fEn, fRev, fSg, fTp, fIt, eIt, eB, eV, eC, frz, shm, aCons, aNil, poN, poS, Rs.d, Rs.sl, vB, List.cons_append, List.nil_append, List.append_nil, List.replicate_zero, List.replicate_succ, List.getElem?_cons_zero, List.getElem?_cons_succ, List.set_cons_zero, List.set_cons_succ, List.length_cons, List.length_nil, opLen, lenD, opList, opAdd, opSub, opMul, opMod, opDiv, opPow, opMin, opMax, opIx, opSl, cmpB, cEq, cNe, cIsN, cNotN, truD, tgN, tgT, setAll, isKd, opFind, opFind3, opStarts, opStarts3, Nat.reduceLT, Nat.reduceAdd, Nat.reduceSub, Nat.reduceLeDiff, Int.reduceLT, Int.reduceLE, Int.reduceNeg, reduceIte, and_self, true_and, and_true, decide_true, decide_false, Int.toNat_natCast, decide_eq_false n7, decide_eq_false n8]; exact rfl) ?_
      refine fin_seq (by simp (disch := first | omega | assumption) only [if_pos, if_neg, decide_eq_true, decide_eq_false, atI_of, cutL_take, cutL_drop, cutL_mid, ge_iff_le, gt_iff_lt, Int.reduceToNat, Int.toNat_zero, Int.toNat_one, Bool.not_true, Bool.not_false, szl, sStuck, fLenS, cGtA, sAppQ, sSetQ, sForT, forTL, opSortT, fDItems, fDKeys, fLcO, D.key, fDNew, fDGet, sDPutV, fDSet, fRg3, fChV, fSortL, frL, frS, fSortB, sRem, sqAt, eIxI, fItm, fItV, chS, sItC, sItA, sItI, sItS, fTmp, Sl.mut, Sl.th, O.d, sqD, D.atm, sTryR, fSq, aConsF, aNilF, eO, sTgF, setFd, Fd.sl, opJoinRev, fLRev, runDef, runDefI, ioAt, insA, chL, getO, setO, getL, setL, obAt, eFd, eFV, eFB, fFld, fMeth, fMethI, fMake, fCallI, aHere, fIsO, sFldS, setF, Rs.fd, Fd.d, O.d, fMethD, chF, sAppF, fPopF, fPop0, fPop1, sIns, sRetI, sRetNI, fZip, fML, opAny, opAll, opSorted, opMaxL, opMinL, opRfind, opCount, List.map_cons, List.map_nil, cInA, cNinA, inD, itD, fItA, eItA, cLtA, cLeA, fRr1, fRr2, opInt, sPar, fCallD, fRaise0, fRaise1, sTryAs, sTry, aftr, noX, allEq_const, fXf, fXi, fLc, lcL, unE, tYs, Vs.ret, xLock, inis, bof, sNil, sSeq, sAsg, sRet, sRetV, sRetN, sIf, sDrop, sTg, sFor, sBrk, sCnt, sApp, sExt, sOwn, sSetI, opSetI, sLock, unlk, sbnd, bnd, fOp, fCh, fCl, fCall, fLst, fTup, fSl, fIf, fAnd, fOr, fNot, fTru, fAndV, fOrV, fNotV, fNeg, fIsi, fM1, fM2, fRg1, fRg2, fEn, fRev, fSg, fTp, fIt, eIt, eB, eV, eC, frz, shm, aCons, aNil, poN, poS, Rs.d, Rs.sl, vB, List.cons_append, List.nil_append, List.append_nil, List.replicate_zero, List.replicate_succ, List.getElem?_cons_zero, List.getElem?_cons_succ, List.set_cons_zero, List.set_cons_succ, List.length_cons, List.length_nil, opLen, lenD, opList, opAdd, opSub, opMul, opMod, opDiv, opPow, opMin, opMax, opIx, opSl, cmpB, cEq, cNe, cIsN, cNotN, truD, tgN, tgT, setAll, isKd, opFind, opFind3, opStarts, opStarts3, Nat.reduceLT, Nat.reduceAdd, Nat.reduceSub, Nat.reduceLeDiff, Int.reduceLT, Int.reduceLE, Int.reduceNeg, reduceIte, and_self, true_and, and_true, decide_true, decide_false, Int.toNat_natCast, decide_eq_false n9]; exact rfl) ?_
      refine fin_seq (by simp (disch := first | omega | assumption) only [if_pos, if_neg, decide_eq_true, decide_eq_false, atI_of, cutL_take, cutL_drop, cutL_mid, ge_iff_le, gt_iff_lt, Int.reduceToNat, Int.toNat_zero, Int.toNat_one, Bool.not_true, Bool.not_false, szl, sStuck, fLenS, cGtA, sAppQ, sSetQ, sForT, forTL, opSortT, fDItems, fDKeys, fLcO, D.key, fDNew, fDGet, sDPutV, fDSet, fRg3, fChV, fSortL, frL, frS, fSortB, sRem, sqAt, eIxI, fItm, fItV, chS, sItC, sItA, sItI, sItS, fTmp, Sl.mut, Sl.th, O.d, sqD, D.atm, sTryR, fSq, aConsF, aNilF, eO, sTgF, setFd, Fd.sl, opJoinRev, fLRev, runDef, runDefI, ioAt, insA, chL, getO, setO, getL, setL, obAt, eFd, eFV, eFB, fFld, fMeth, fMethI, fMake, fCallI, aHere, fIsO, sFldS, setF, Rs.fd, Fd.d, O.d, fMethD, chF, sAppF, fPopF, fPop0, fPop1, sIns, sRetI, sRetNI, fZip, fML, opAny, opAll, opSorted, opMaxL, opMinL, opRfind, opCount, List.map_cons, List.map_nil, cInA, cNinA, inD, itD, fItA, eItA, cLtA, cLeA, fRr1, fRr2, opInt, sPar, fCallD, fRaise0, fRaise1, sTryAs, sTry, aftr, noX, allEq_const, fXf, fXi, fLc, lcL, unE, tYs, Vs.ret, xLock, inis, bof, sNil, sSeq, sAsg, sRet, sRetV, sRetN, sIf, sDrop, sTg, sFor, sBrk, sCnt, sApp, sExt, sOwn, sSetI, opSetI, sLock, unlk, sbnd, bnd, fOp, fCh, fCl, fCall, fLst, fTup, fSl, fIf, fAnd, fOr, fNot, fTru, fAndV, fOrV, fNotV, fNeg, fIsi, fM1, fM2, fRg1, fRg2, fEn, fRev, fSg, fTp, fIt, eIt, eB, eV, eC, frz, shm, aCons, aNil, poN, poS, Rs.d, Rs.sl, vB, List.cons_append, List.nil_append, List.append_nil, List.replicate_zero, List.replicate_succ, List.getElem?_cons_zero, List.getElem?_cons_succ, List.set_cons_zero, List.set_cons_succ, List.length_cons, List.length_nil, opLen, lenD, opList, opAdd, opSub, opMul, opMod, opDiv, opPow, opMin, opMax, opIx, opSl, cmpB, cEq, cNe, cIsN, cNotN, truD, tgN, tgT, setAll, isKd, opFind, opFind3, opStarts, opStarts3, Nat.reduceLT, Nat.reduceAdd, Nat.reduceSub, Nat.reduceLeDiff, Int.reduceLT, Int.reduceLE, Int.reduceNeg, reduceIte, and_self, true_and, and_true, decide_true, decide_false, Int.toNat_natCast, decide_eq_false n10]; exact rfl) ?_
      exact hp _ (by simp (disch := first | omega | assumption) only [if_pos, if_neg, decide_eq_true, decide_eq_false, atI_of, cutL_take, cutL_drop, cutL_mid, ge_iff_le, gt_iff_lt, Int.reduceToNat, Int.toNat_zero, Int.toNat_one, Bool.not_true, Bool.not_false, szl, sStuck, fLenS, cGtA, sAppQ, sSetQ, sForT, forTL, opSortT, fDItems, fDKeys, fLcO, D.key, fDNew, fDGet, sDPutV, fDSet, fRg3, fChV, fSortL, frL, frS, fSortB, sRem, sqAt, eIxI, fItm, fItV, chS, sItC, sItA, sItI, sItS, fTmp, Sl.mut, Sl.th, O.d, sqD, D.atm, sTryR, fSq, aConsF, aNilF, eO, sTgF, setFd, Fd.sl, opJoinRev, fLRev, runDef, runDefI, ioAt, insA, chL, getO, setO, getL, setL, obAt, eFd, eFV, eFB, fFld, fMeth, fMethI, fMake, fCallI, aHere, fIsO, sFldS, setF, Rs.fd, Fd.d, O.d, fMethD, chF, sAppF, fPopF, fPop0, fPop1, sIns, sRetI, sRetNI, fZip, fML, opAny, opAll, opSorted, opMaxL, opMinL, opRfind, opCount, List.map_cons, List.map_nil, cInA, cNinA, inD, itD, fItA, eItA, cLtA, cLeA, fRr1, fRr2, opInt, sPar, fCallD, fRaise0, fRaise1, sTryAs, sTry, aftr, noX, allEq_const, fXf, fXi, fLc, lcL, unE, tYs, Vs.ret, xLock, inis, bof, sNil, sSeq, sAsg, sRet, sRetV, sRetN, sIf, sDrop, sTg, sFor, sBrk, sCnt, sApp, sExt, sOwn, sSetI, opSetI, sLock, unlk, sbnd, bnd, fOp, fCh, fCl, fCall, fLst, fTup, fSl, fIf, fAnd, fOr, fNot, fTru, fAndV, fOrV, fNotV, fNeg, fIsi, fM1, fM2, fRg1, fRg2, fEn, fRev, fSg, fTp, fIt, eIt, eB, eV, eC, frz, shm, aCons, aNil, poN, poS, Rs.d, Rs.sl, vB, List.cons_append, List.nil_append, List.append_nil, List.replicate_zero, List.replicate_succ, List.getElem?_cons_zero, List.getElem?_cons_succ, List.set_cons_zero, List.set_cons_succ, List.length_cons, List.length_nil, opLen, lenD, opList, opAdd, opSub, opMul, opMod, opDiv, opPow, opMin, opMax, opIx, opSl, cmpB, cEq, cNe, cIsN, cNotN, truD, tgN, tgT, setAll, isKd, opFind, opFind3, opStarts, opStarts3, Nat.reduceLT, Nat.reduceAdd, Nat.reduceSub, Nat.reduceLeDiff, Int.reduceLT, Int.reduceLE, Int.reduceNeg, reduceIte, and_self, true_and, and_true, decide_true, decide_false, Int.toNat_natCast, decide_eq_true m11, hy, decide_eq_false (show ¬ (y : Int) = 1 by omega)])
  · have m11 : ¬ (w : Int) = 11 := by omega
    refine ⟨.pact a b, ?_, p2, p3⟩
    refine run_fin ?_
    refine fin_seq (by simp (disch := first | omega | assumption) only [if_pos, if_neg, decide_eq_true, decide_eq_false, atI_of, cutL_take, cutL_drop, cutL_mid, ge_iff_le, gt_iff_lt, Int.reduceToNat, Int.toNat_zero, Int.toNat_one, Bool.not_true, Bool.not_false, szl, sStuck, fLenS, cGtA, sAppQ, sSetQ, sForT, forTL, opSortT, fDItems, fDKeys, fLcO, D.key, fDNew, fDGet, sDPutV, fDSet, fRg3, fChV, fSortL, frL, frS, fSortB, sRem, sqAt, eIxI, fItm, fItV, chS, sItC, sItA, sItI, sItS, fTmp, Sl.mut, Sl.th, O.d, sqD, D.atm, sTryR, fSq, aConsF, aNilF, eO, sTgF, setFd, Fd.sl, opJoinRev, fLRev, runDef, runDefI, ioAt, insA, chL, getO, setO, getL, setL, obAt, eFd, eFV, eFB, fFld, fMeth, fMethI, fMake, fCallI, aHere, fIsO, sFldS, setF, Rs.fd, Fd.d, O.d, fMethD, chF, sAppF, fPopF, fPop0, fPop1, sIns, sRetI, sRetNI, fZip, fML, opAny, opAll, opSorted, opMaxL, opMinL, opRfind, opCount, List.map_cons, List.map_nil, cInA, cNinA, inD, itD, fItA, eItA, cLtA, cLeA, fRr1, fRr2, opInt, sPar, fCallD, fRaise0, fRaise1, sTryAs, sTry, aftr, noX, allEq_const, fXf, fXi, fLc, lcL, unE, tYs, Vs.ret, xLock, inis, bof, sNil, sSeq, sAsg, sRet, sRetV, sRetN, sIf, sDrop, sTg, sFor, sBrk, sCnt, sApp, sExt, sOwn, sSetI, opSetI, sLock, unlk, sbnd, bnd, fOp, fCh, fCl, fCall, fLst, fTup, fSl, fIf, fAnd, fOr, fNot, fTru, fAndV, fOrV, fNotV, fNeg, fIsi, fM1, fM2, fRg1, fRg2, fEn, fRev, fSg, fTp, fIt, eIt, eB, eV, eC, frz, shm, aCons, aNil, poN, poS, Rs.d, Rs.sl, vB, List.cons_append, List.nil_append, List.append_nil, List.replicate_zero, List.replicate_succ, List.getElem?_cons_zero, List.getElem?_cons_succ, List.set_cons_zero, List.set_cons_succ, List.length_cons, List.length_nil, opLen, lenD, opList, opAdd, opSub, opMul, opMod, opDiv, opPow, opMin, opMax, opIx, opSl, cmpB, cEq, cNe, cIsN, cNotN, truD, tgN, tgT, setAll, isKd, opFind, opFind3, opStarts, opStarts3, Nat.reduceLT, Nat.reduceAdd, Nat.reduceSub, Nat.reduceLeDiff, Int.reduceLT, Int.reduceLE, Int.reduceNeg, reduceIte, and_self, true_and, and_true, decide_true, decide_false, Int.toNat_natCast, hw]; exact rfl) ?_
    refine fin_seq (by simp (disch := first | omega | assumption) only [if_pos, if_neg, decide_eq_true, decide_eq_false, atI_of, cutL_take, cutL_drop, cutL_mid, ge_iff_le, gt_iff_lt, Int.reduceToNat, Int.toNat_zero, Int.toNat_one, Bool.not_true, Bool.not_false, szl, sStuck, fLenS, cGtA, sAppQ, sSetQ, sForT, forTL, opSortT, fDItems, fDKeys, fLcO, D.key, fDNew, fDGet, sDPutV, fDSet, fRg3, fChV, fSortL, frL, frS, fSortB, sRem, sqAt, eIxI, fItm, fItV, chS, sItC, sItA, sItI, sItS, fTmp, Sl.mut, Sl.th, O.d, sqD, D.atm, sTryR, fSq, aConsF, aNilF, eO, sTgF, setFd, Fd.sl, opJoinRev, fLRev, runDef, runDefI, ioAt, insA, chL, getO, setO, getL, setL, obAt, eFd, eFV, eFB, fFld, fMeth, fMethI, fMake, fCallI, aHere, fIsO, sFldS, setF, Rs.fd, Fd.d, O.d, fMethD, chF, sAppF, fPopF, fPop0, fPop1, sIns, sRetI, sRetNI, fZip, fML, opAny, opAll, opSorted, opMaxL, opMinL, opRfind, opCount, List.map_cons, List.map_nil, cInA, cNinA, inD, itD, fItA, eItA, cLtA, cLeA, fRr1, fRr2, opInt, sPar, fCallD, fRaise0, fRaise1, sTryAs, sTry, aftr, noX, allEq_const, fXf, fXi, fLc, lcL, unE, tYs, Vs.ret, xLock, inis, bof, sNil, sSeq, sAsg, sRet, sRetV, sRetN, sIf, sDrop, sTg, sFor, sBrk, sCnt, sApp, sExt, sOwn, sSetI, opSetI, sLock, unlk, sbnd, bnd, fOp, fCh, fCl, fCall, fLst, fTup, fSl, fIf, fAnd, fOr, fNot, fTru, fAndV, fOrV, fNotV, fNeg, fIsi, fM1, fM2, fRg1, fRg2, fEn, fRev, fSg, fTp, fIt, eIt, eB, eV, eC, frz, shm, aCons, aNil, poN, poS, Rs.d, Rs.sl, vB, List.cons_append, List.nil_append, List.append_nil, List.replicate_zero, List.replicate_succ, List.getElem?_cons_zero, List.getElem?_cons_succ, List.set_cons_zero, List.set_cons_succ, List.length_cons, List.length_nil, opLen, lenD, opList, opAdd, opSub, opMul, opMod, opDiv, opPow, opMin, opMax, opIx, opSl, cmpB, cEq, cNe, cIsN, cNotN, truD, tgN, tgT, setAll, isKd, opFind, opFind3, opStarts, opStarts3, Nat.reduceLT, Nat.reduceAdd, Nat.reduceSub, Nat.reduceLeDiff, Int.reduceLT, Int.reduceLE, Int.reduceNeg, reduceIte, and_self, true_and, and_true, decide_true, decide_false, Int.toNat_natCast, decide_eq_false n7, decide_eq_false n8]; exact rfl) ?_
    refine fin_seq (by simp (disch := first | omega | assumption) only [if_pos, if_neg, decide_eq_true, decide_eq_false, atI_of, cutL_take, cutL_drop, cutL_mid, ge_iff_le, gt_iff_lt, Int.reduceToNat, Int.toNat_zero, Int.toNat_one, Bool.not_true, Bool.not_false, szl, sStuck, fLenS, cGtA, sAppQ, sSetQ, sForT, forTL, opSortT, fDItems, fDKeys, fLcO, D.key, fDNew, fDGet, sDPutV, fDSet, fRg3, fChV, fSortL, frL, frS, fSortB, sRem, sqAt, eIxI, fItm, fItV, chS, sItC, sItA, sItI, sItS, fTmp, Sl.mut, Sl.th, O.d, sqD, D.atm, sTryR, fSq, aConsF, aNilF, eO, sTgF, setFd, Fd.sl, opJoinRev, fLRev, runDef, runDefI, ioAt, insA, chL, getO, setO, getL, setL, obAt, eFd, eFV, eFB, fFld, fMeth, fMethI, fMake, fCallI, aHere, fIsO, sFldS, setF, Rs.fd, Fd.d, O.d, fMethD, chF, sAppF, fPopF, fPop0, fPop1, sIns, sRetI, sRetNI, fZip, fML, opAny, opAll, opSorted, opMaxL, opMinL, opRfind, opCount, List.map_cons, List.map_nil, cInA, cNinA, inD, itD, fItA, eItA, cLtA, cLeA, fRr1, fRr2, opInt, sPar, fCallD, fRaise0, fRaise1, sTryAs, sTry, aftr, noX, allEq_const, fXf, fXi, fLc, lcL, unE, tYs, Vs.ret, xLock, inis, bof, sNil, sSeq, sAsg, sRet, sRetV, sRetN, sIf, sDrop, sTg, sFor, sBrk, sCnt, sApp, sExt, sOwn, sSetI, opSetI, sLock, unlk, sbnd, bnd, fOp, fCh, fCl, fCall, fLst, fTup, fSl, fIf, fAnd, fOr, fNot, fTru, fAndV, fOrV, fNotV, fNeg, fIsi, fM1, fM2, fRg1, fRg2, fEn, fRev, fSg, fTp, fIt, eIt, eB, eV, eC, frz, shm, aCons, aNil, poN, poS, Rs.d, Rs.sl, vB, List.cons_append, List.nil_append, List.append_nil, List.replicate_zero, List.replicate_succ, List.getElem?_cons_zero, List.getElem?_cons_succ, List.set_cons_zero, List.set_cons_succ, List.length_cons, List.length_nil, opLen, lenD, opList, opAdd, opSub, opMul, opMod, opDiv, opPow, opMin, opMax, opIx, opSl, cmpB, cEq, cNe, cIsN, cNotN, truD, tgN, tgT, setAll, isKd, opFind, opFind3, opStarts, opStarts3, Nat.reduceLT, Nat.reduceAdd, Nat.reduceSub, Nat.reduceLeDiff, Int.reduceLT, Int.reduceLE, Int.reduceNeg, reduceIte, and_self, true_and, and_true, decide_true, decide_false, Int.toNat_natCast, decide_eq_false n9]; exact rfl) ?_
    refine fin_seq (by simp (disch := first | omega | assumption) only [if_pos, if_neg, decide_eq_true, decide_eq_false, atI_of, cutL_take, cutL_drop, cutL_mid, ge_iff_le, gt_iff_lt, Int.reduceToNat, Int.toNat_zero, Int.toNat_one, Bool.not_true, Bool.not_false, szl, sStuck, fLenS, cGtA, sAppQ, sSetQ, sForT, forTL, opSortT, fDItems, fDKeys, fLcO, D.key, fDNew, fDGet, sDPutV, fDSet, fRg3, fChV, fSortL, frL, frS, fSortB, sRem, sqAt, eIxI, fItm, fItV, chS, sItC, sItA, sItI, sItS, fTmp, Sl.mut, Sl.th, O.d, sqD, D.atm, sTryR, fSq, aConsF, aNilF, eO, sTgF, setFd, Fd.sl, opJoinRev, fLRev, runDef, runDefI, ioAt, insA, chL, getO, setO, getL, setL, obAt, eFd, eFV, eFB, fFld, fMeth, fMethI, fMake, fCallI, aHere, fIsO, sFldS, setF, Rs.fd, Fd.d, O.d, fMethD, chF, sAppF, fPopF, fPop0, fPop1, sIns, sRetI, sRetNI, fZip, fML, opAny, opAll, opSorted, opMaxL, opMinL, opRfind, opCount, List.map_cons, List.map_nil, cInA, cNinA, inD, itD, fItA, eItA, cLtA, cLeA, fRr1, fRr2, opInt, sPar, fCallD, fRaise0, fRaise1, sTryAs, sTry, aftr, noX, allEq_const, fXf, fXi, fLc, lcL, unE, tYs, Vs.ret, xLock, inis, bof, sNil, sSeq, sAsg, sRet, sRetV, sRetN, sIf, sDrop, sTg, sFor, sBrk, sCnt, sApp, sExt, sOwn, sSetI, opSetI, sLock, unlk, sbnd, bnd, fOp, fCh, fCl, fCall, fLst, fTup, fSl, fIf, fAnd, fOr, fNot, fTru, fAndV, fOrV, fNotV, fNeg, fIsi, fM1, fM2, fRg1, fRg2, fEn, fRev, fSg, fTp, fIt, eIt, eB, eV, eC, frz, shm, aCons, aNil, poN, poS, Rs.d, Rs.sl, vB, List.cons_append, List.nil_append, List.append_nil, List.replicate_zero, List.replicate_succ, List.getElem?_cons_zero, List.getElem?_cons_succ, List.set_cons_zero, List.set_cons_succ, List.length_cons, List.length_nil, opLen, lenD, opList, opAdd, opSub, opMul, opMod, opDiv, opPow, opMin, opMax, opIx, opSl, cmpB, cEq, cNe, cIsN, cNotN, truD, tgN, tgT, setAll, isKd, opFind, opFind3, opStarts, opStarts3, Nat.reduceLT, Nat.reduceAdd, Nat.reduceSub, Nat.reduceLeDiff, Int.reduceLT, Int.reduceLE, Int.reduceNeg, reduceIte, and_self, true_and, and_true, decide_true, decide_false, Int.toNat_natCast, decide_eq_false n10]; exact rfl) ?_
    exact hp _ (by simp (disch := first | omega | assumption) only [if_pos, if_neg, decide_eq_true, decide_eq_false, atI_of, cutL_take, cutL_drop, cutL_mid, ge_iff_le, gt_iff_lt, Int.reduceToNat, Int.toNat_zero, Int.toNat_one, Bool.not_true, Bool.not_false, szl, sStuck, fLenS, cGtA, sAppQ, sSetQ, sForT, forTL, opSortT, fDItems, fDKeys, fLcO, D.key, fDNew, fDGet, sDPutV, fDSet, fRg3, fChV, fSortL, frL, frS, fSortB, sRem, sqAt, eIxI, fItm, fItV, chS, sItC, sItA, sItI, sItS, fTmp, Sl.mut, Sl.th, O.d, sqD, D.atm, sTryR, fSq, aConsF, aNilF, eO, sTgF, setFd, Fd.sl, opJoinRev, fLRev, runDef, runDefI, ioAt, insA, chL, getO, setO, getL, setL, obAt, eFd, eFV, eFB, fFld, fMeth, fMethI, fMake, fCallI, aHere, fIsO, sFldS, setF, Rs.fd, Fd.d, O.d, fMethD, chF, sAppF, fPopF, fPop0, fPop1, sIns, sRetI, sRetNI, fZip, fML, opAny, opAll, opSorted, opMaxL, opMinL, opRfind, opCount, List.map_cons, List.map_nil, cInA, cNinA, inD, itD, fItA, eItA, cLtA, cLeA, fRr1, fRr2, opInt, sPar, fCallD, fRaise0, fRaise1, sTryAs, sTry, aftr, noX, allEq_const, fXf, fXi, fLc, lcL, unE, tYs, Vs.ret, xLock, inis, bof, sNil, sSeq, sAsg, sRet, sRetV, sRetN, sIf, sDrop, sTg, sFor, sBrk, sCnt, sApp, sExt, sOwn, sSetI, opSetI, sLock, unlk, sbnd, bnd, fOp, fCh, fCl, fCall, fLst, fTup, fSl, fIf, fAnd, fOr, fNot, fTru, fAndV, fOrV, fNotV, fNeg, fIsi, fM1, fM2, fRg1, fRg2, fEn, fRev, fSg, fTp, fIt, eIt, eB, eV, eC, frz, shm, aCons, aNil, poN, poS, Rs.d, Rs.sl, vB, List.cons_append, List.nil_append, List.append_nil, List.replicate_zero, List.replicate_succ, List.getElem?_cons_zero, List.getElem?_cons_succ, List.set_cons_zero, List.set_cons_succ, List.length_cons, List.length_nil, opLen, lenD, opList, opAdd, opSub, opMul, opMod, opDiv, opPow, opMin, opMax, opIx, opSl, cmpB, cEq, cNe, cIsN, cNotN, truD, tgN, tgT, setAll, isKd, opFind, opFind3, opStarts, opStarts3, Nat.reduceLT, Nat.reduceAdd, Nat.reduceSub, Nat.reduceLeDiff, Int.reduceLT, Int.reduceLE, Int.reduceNeg, reduceIte, and_self, true_and, and_true, decide_true, decide_false, Int.toNat_natCast, decide_eq_false m11])

/-! k91: the desk is told a row -/
def pD (p : List Nat × List Nat) : D := .tup [.str p.1, .str p.2]
inductive IsO (L : List Nat) : D → Prop
  | len : IsO L (.ob 1 [.str L])
  | right : IsO L (.ob 2 [.str L])
  | wts (l : List D) : IsO L (.ob 3 (.str L :: l))
theorem letters_ob {L : List Nat} {od : D} (h : IsO L od) : ∃ c l, od = .ob c (.str L :: l) ∧ fld_letters c = some 0 := by
  cases h with
  | len => exact ⟨_, _, rfl, rfl⟩
  | right => exact ⟨_, _, rfl, rfl⟩
  | wts l => exact ⟨_, _, rfl, rfl⟩
def dk (od : D) (ps : List (List Nat × List Nat)) : O := .ob 4 [.sh od, .ow (ps.map pD)]
theorem e_lok {T : List Nat} (h : goodL T) : g_letters_of [.str T] = some (.rt (.sh (.str T))) := by
  have := h.2.1
  rcases e_letters_of T (by omega) with ⟨_, q⟩ | ⟨q, _⟩
  · exact q
  · exact absurd h q
theorem e_init {c : Nat} (hc : c = 1 ∨ c = 2 ∨ c = 3) {T : List Nat} (hT : goodL T) : g_Order_init (.ob c []) [.str T] = some (.rt (.sh .non) (.ob c [.sh (.str T)])) := by
  have hT := e_lok hT
  unfold g_Order_init b_Order_init
  rcases hc with rfl | rfl | rfl <;> simp (disch := first | omega | assumption) only [if_pos, if_neg, decide_eq_true, decide_eq_false, atI_of, cutL_take, cutL_drop, cutL_mid, ge_iff_le, gt_iff_lt, Int.reduceToNat, Int.toNat_zero, Int.toNat_one, Bool.not_true, Bool.not_false, szl, sStuck, fLenS, cGtA, sAppQ, sSetQ, sForT, forTL, opSortT, fDItems, fDKeys, fLcO, D.key, fDNew, fDGet, sDPutV, fDSet, fRg3, fChV, fSortL, frL, frS, fSortB, sRem, sqAt, eIxI, fItm, fItV, chS, sItC, sItA, sItI, sItS, fTmp, Sl.mut, Sl.th, O.d, sqD, D.atm, sTryR, fSq, aConsF, aNilF, eO, sTgF, setFd, Fd.sl, opJoinRev, fLRev, runDef, runDefI, ioAt, insA, chL, getO, setO, getL, setL, obAt, eFd, eFV, eFB, fFld, fMeth, fMethI, fMake, fCallI, aHere, fIsO, sFldS, setF, Rs.fd, Fd.d, O.d, fMethD, chF, sAppF, fPopF, fPop0, fPop1, sIns, sRetI, sRetNI, fZip, fML, opAny, opAll, opSorted, opMaxL, opMinL, opRfind, opCount, List.map_cons, List.map_nil, cInA, cNinA, inD, itD, fItA, eItA, cLtA, cLeA, fRr1, fRr2, opInt, sPar, fCallD, fRaise0, fRaise1, sTryAs, sTry, aftr, noX, allEq_const, fXf, fXi, fLc, lcL, unE, tYs, Vs.ret, xLock, inis, bof, sNil, sSeq, sAsg, sRet, sRetV, sRetN, sIf, sDrop, sTg, sFor, sBrk, sCnt, sApp, sExt, sOwn, sSetI, opSetI, sLock, unlk, sbnd, bnd, fOp, fCh, fCl, fCall, fLst, fTup, fSl, fIf, fAnd, fOr, fNot, fTru, fAndV, fOrV, fNotV, fNeg, fIsi, fM1, fM2, fRg1, fRg2, fEn, fRev, fSg, fTp, fIt, eIt, eB, eV, eC, frz, shm, aCons, aNil, poN, poS, Rs.d, Rs.sl, vB, List.cons_append, List.nil_append, List.append_nil, List.replicate_zero, List.replicate_succ, List.getElem?_cons_zero, List.getElem?_cons_succ, List.set_cons_zero, List.set_cons_succ, List.length_cons, List.length_nil, opLen, lenD, opList, opAdd, opSub, opMul, opMod, opDiv, opPow, opMin, opMax, opIx, opSl, cmpB, cEq, cNe, cIsN, cNotN, truD, tgN, tgT, setAll, isKd, opFind, opFind3, opStarts, opStarts3, Nat.reduceLT, Nat.reduceAdd, Nat.reduceSub, Nat.reduceLeDiff, Int.reduceLT, Int.reduceLE, Int.reduceNeg, reduceIte, and_self, true_and, and_true, decide_true, decide_false, Int.toNat_natCast, fld_letters, hT]
theorem e_initW {T : List Nat} (hT : goodL T) {Z : List Nat} (hl : Z.length = T.length) (hZ : ∀ z ∈ Z, 1 ≤ z ∧ z ≤ 1000000) : g_ByWeights_init (.ob 3 []) [.str T, .lst (Z.map fun (z : Nat) => D.int (z : Int))] = some (.rt (.sh .non) (.ob 3 [.sh (.str T), .sh (.lst (Z.map fun (z : Nat) => D.int (z : Int)))])) := by
  have h := e_init (c := 3) (by simp) hT
  have h6 := hT.2.1
  obtain ⟨W, hW⟩ : ∃ W, W = Z.map fun (z : Nat) => D.int (z : Int) := ⟨_, rfl⟩
  have hWl : W.length = T.length := by rw [hW, List.length_map, hl]
  have i1 : ∀ s, i1_ByWeights_init [.io (.ob 3 [.sh (.str T)]), .sh (.str T), .bo W, s] = some (.nx [.io (.ob 3 [.sh (.str T)]), .sh (.str T), .bo W, s]) := fun s => by
    unfold i1_ByWeights_init
    simp (disch := first | omega | assumption) only [if_pos, if_neg, decide_eq_true, decide_eq_false, atI_of, cutL_take, cutL_drop, cutL_mid, ge_iff_le, gt_iff_lt, Int.reduceToNat, Int.toNat_zero, Int.toNat_one, Bool.not_true, Bool.not_false, szl, sStuck, fLenS, cGtA, sAppQ, sSetQ, sForT, forTL, opSortT, fDItems, fDKeys, fLcO, D.key, fDNew, fDGet, sDPutV, fDSet, fRg3, fChV, fSortL, frL, frS, fSortB, sRem, sqAt, eIxI, fItm, fItV, chS, sItC, sItA, sItI, sItS, fTmp, Sl.mut, Sl.th, O.d, sqD, D.atm, sTryR, fSq, aConsF, aNilF, eO, sTgF, setFd, Fd.sl, opJoinRev, fLRev, runDef, runDefI, ioAt, insA, chL, getO, setO, getL, setL, obAt, eFd, eFV, eFB, fFld, fMeth, fMethI, fMake, fCallI, aHere, fIsO, sFldS, setF, Rs.fd, Fd.d, O.d, fMethD, chF, sAppF, fPopF, fPop0, fPop1, sIns, sRetI, sRetNI, fZip, fML, opAny, opAll, opSorted, opMaxL, opMinL, opRfind, opCount, List.map_cons, List.map_nil, cInA, cNinA, inD, itD, fItA, eItA, cLtA, cLeA, fRr1, fRr2, opInt, sPar, fCallD, fRaise0, fRaise1, sTryAs, sTry, aftr, noX, allEq_const, fXf, fXi, fLc, lcL, unE, tYs, Vs.ret, xLock, inis, bof, sNil, sSeq, sAsg, sRet, sRetV, sRetN, sIf, sDrop, sTg, sFor, sBrk, sCnt, sApp, sExt, sOwn, sSetI, opSetI, sLock, unlk, sbnd, bnd, fOp, fCh, fCl, fCall, fLst, fTup, fSl, fIf, fAnd, fOr, fNot, fTru, fAndV, fOrV, fNotV, fNeg, fIsi, fM1, fM2, fRg1, fRg2, fEn, fRev, fSg, fTp, fIt, eIt, eB, eV, eC, frz, shm, aCons, aNil, poN, poS, Rs.d, Rs.sl, vB, List.cons_append, List.nil_append, List.append_nil, List.replicate_zero, List.replicate_succ, List.getElem?_cons_zero, List.getElem?_cons_succ, List.set_cons_zero, List.set_cons_succ, List.length_cons, List.length_nil, opLen, lenD, opList, opAdd, opSub, opMul, opMod, opDiv, opPow, opMin, opMax, opIx, opSl, cmpB, cEq, cNe, cIsN, cNotN, truD, tgN, tgT, setAll, isKd, opFind, opFind3, opStarts, opStarts3, Nat.reduceLT, Nat.reduceAdd, Nat.reduceSub, Nat.reduceLeDiff, Int.reduceLT, Int.reduceLE, Int.reduceNeg, reduceIte, and_self, true_and, and_true, decide_true, decide_false, Int.toNat_natCast, fld_letters, hWl, decide_true, Bool.not_true]
  obtain ⟨j, f1⟩ := forL_each (tg := tgN 3) (body := l1_ByWeights_init) (fun (q : Sl) => [.io (.ob 3 [.sh (.str T)]), .sh (.str T), .bo W, q]) (fun (z : Nat) => D.int (z : Int)) Z .un (fun z hz q => by
    obtain ⟨z1, z2⟩ := hZ z hz
    refine ⟨_, rfl, .sh (.int (z : Int)), .inl ?_⟩
    unfold l1_ByWeights_init i2_ByWeights_init
    simp (disch := first | omega | assumption) only [if_pos, if_neg, decide_eq_true, decide_eq_false, atI_of, cutL_take, cutL_drop, cutL_mid, ge_iff_le, gt_iff_lt, Int.reduceToNat, Int.toNat_zero, Int.toNat_one, Bool.not_true, Bool.not_false, szl, sStuck, fLenS, cGtA, sAppQ, sSetQ, sForT, forTL, opSortT, fDItems, fDKeys, fLcO, D.key, fDNew, fDGet, sDPutV, fDSet, fRg3, fChV, fSortL, frL, frS, fSortB, sRem, sqAt, eIxI, fItm, fItV, chS, sItC, sItA, sItI, sItS, fTmp, Sl.mut, Sl.th, O.d, sqD, D.atm, sTryR, fSq, aConsF, aNilF, eO, sTgF, setFd, Fd.sl, opJoinRev, fLRev, runDef, runDefI, ioAt, insA, chL, getO, setO, getL, setL, obAt, eFd, eFV, eFB, fFld, fMeth, fMethI, fMake, fCallI, aHere, fIsO, sFldS, setF, Rs.fd, Fd.d, O.d, fMethD, chF, sAppF, fPopF, fPop0, fPop1, sIns, sRetI, sRetNI, fZip, fML, opAny, opAll, opSorted, opMaxL, opMinL, opRfind, opCount, List.map_cons, List.map_nil, cInA, cNinA, inD, itD, fItA, eItA, cLtA, cLeA, fRr1, fRr2, opInt, sPar, fCallD, fRaise0, fRaise1, sTryAs, sTry, aftr, noX, allEq_const, fXf, fXi, fLc, lcL, unE, tYs, Vs.ret, xLock, inis, bof, sNil, sSeq, sAsg, sRet, sRetV, sRetN, sIf, sDrop, sTg, sFor, sBrk, sCnt, sApp, sExt, sOwn, sSetI, opSetI, sLock, unlk, sbnd, bnd, fOp, fCh, fCl, fCall, fLst, fTup, fSl, fIf, fAnd, fOr, fNot, fTru, fAndV, fOrV, fNotV, fNeg, fIsi, fM1, fM2, fRg1, fRg2, fEn, fRev, fSg, fTp, fIt, eIt, eB, eV, eC, frz, shm, aCons, aNil, poN, poS, Rs.d, Rs.sl, vB, List.cons_append, List.nil_append, List.append_nil, List.replicate_zero, List.replicate_succ, List.getElem?_cons_zero, List.getElem?_cons_succ, List.set_cons_zero, List.set_cons_succ, List.length_cons, List.length_nil, opLen, lenD, opList, opAdd, opSub, opMul, opMod, opDiv, opPow, opMin, opMax, opIx, opSl, cmpB, cEq, cNe, cIsN, cNotN, truD, tgN, tgT, setAll, isKd, opFind, opFind3, opStarts, opStarts3, Nat.reduceLT, Nat.reduceAdd, Nat.reduceSub, Nat.reduceLeDiff, Int.reduceLT, Int.reduceLE, Int.reduceNeg, reduceIte, and_self, true_and, and_true, decide_true, decide_false, Int.toNat_natCast])
  rw [← hW] at f1 ⊢
  unfold g_ByWeights_init b_ByWeights_init
  simp (disch := first | omega | assumption) only [if_pos, if_neg, decide_eq_true, decide_eq_false, atI_of, cutL_take, cutL_drop, cutL_mid, ge_iff_le, gt_iff_lt, Int.reduceToNat, Int.toNat_zero, Int.toNat_one, Bool.not_true, Bool.not_false, szl, sStuck, fLenS, cGtA, sAppQ, sSetQ, sForT, forTL, opSortT, fDItems, fDKeys, fLcO, D.key, fDNew, fDGet, sDPutV, fDSet, fRg3, fChV, fSortL, frL, frS, fSortB, sRem, sqAt, eIxI, fItm, fItV, chS, sItC, sItA, sItI, sItS, fTmp, Sl.mut, Sl.th, O.d, sqD, D.atm, sTryR, fSq, aConsF, aNilF, eO, sTgF, setFd, Fd.sl, opJoinRev, fLRev, runDef, runDefI, ioAt, insA, chL, getO, setO, getL, setL, obAt, eFd, eFV, eFB, fFld, fMeth, fMethI, fMake, fCallI, aHere, fIsO, sFldS, setF, Rs.fd, Fd.d, O.d, fMethD, chF, sAppF, fPopF, fPop0, fPop1, sIns, sRetI, sRetNI, fZip, fML, opAny, opAll, opSorted, opMaxL, opMinL, opRfind, opCount, List.map_cons, List.map_nil, cInA, cNinA, inD, itD, fItA, eItA, cLtA, cLeA, fRr1, fRr2, opInt, sPar, fCallD, fRaise0, fRaise1, sTryAs, sTry, aftr, noX, allEq_const, fXf, fXi, fLc, lcL, unE, tYs, Vs.ret, xLock, inis, bof, sNil, sSeq, sAsg, sRet, sRetV, sRetN, sIf, sDrop, sTg, sFor, sBrk, sCnt, sApp, sExt, sOwn, sSetI, opSetI, sLock, unlk, sbnd, bnd, fOp, fCh, fCl, fCall, fLst, fTup, fSl, fIf, fAnd, fOr, fNot, fTru, fAndV, fOrV, fNotV, fNeg, fIsi, fM1, fM2, fRg1, fRg2, fEn, fRev, fSg, fTp, fIt, eIt, eB, eV, eC, frz, shm, aCons, aNil, poN, poS, Rs.d, Rs.sl, vB, List.cons_append, List.nil_append, List.append_nil, List.replicate_zero, List.replicate_succ, List.getElem?_cons_zero, List.getElem?_cons_succ, List.set_cons_zero, List.set_cons_succ, List.length_cons, List.length_nil, opLen, lenD, opList, opAdd, opSub, opMul, opMod, opDiv, opPow, opMin, opMax, opIx, opSl, cmpB, cEq, cNe, cIsN, cNotN, truD, tgN, tgT, setAll, isKd, opFind, opFind3, opStarts, opStarts3, Nat.reduceLT, Nat.reduceAdd, Nat.reduceSub, Nat.reduceLeDiff, Int.reduceLT, Int.reduceLE, Int.reduceNeg, reduceIte, and_self, true_and, and_true, decide_true, decide_false, Int.toNat_natCast, h, i1, itD, f1, fld_weights]
theorem e_lrow {t T : List Nat} (ht : t = [108, 101, 116, 116, 101, 114, 115, 32] ++ T) (hT : goodL T) (od : D) (ps : List (List Nat × List Nat)) : g_Desk_letters_row (dk od ps) [.str t] = some (.rt (.sh (.str t)) (dk (.ob 1 [.str T]) [])) := by
  have h6 := hT.2.1
  have d8 : t.drop 8 = T := by rw [ht]; rfl
  have tl : t.length ≤ 100 := by rw [ht, List.length_append]; simp; omega
  have l1 := e_lok hT
  have l2 := e_init (c := 1) (by simp) hT
  have r8 : Int.toNat 8 = 8 := rfl
  unfold g_Desk_letters_row b_Desk_letters_row dk
  simp (disch := first | omega | assumption) only [if_pos, if_neg, decide_eq_true, decide_eq_false, atI_of, cutL_take, cutL_drop, cutL_mid, ge_iff_le, gt_iff_lt, Int.reduceToNat, Int.toNat_zero, Int.toNat_one, Bool.not_true, Bool.not_false, szl, sStuck, fLenS, cGtA, sAppQ, sSetQ, sForT, forTL, opSortT, fDItems, fDKeys, fLcO, D.key, fDNew, fDGet, sDPutV, fDSet, fRg3, fChV, fSortL, frL, frS, fSortB, sRem, sqAt, eIxI, fItm, fItV, chS, sItC, sItA, sItI, sItS, fTmp, Sl.mut, Sl.th, O.d, sqD, D.atm, sTryR, fSq, aConsF, aNilF, eO, sTgF, setFd, Fd.sl, opJoinRev, fLRev, runDef, runDefI, ioAt, insA, chL, getO, setO, getL, setL, obAt, eFd, eFV, eFB, fFld, fMeth, fMethI, fMake, fCallI, aHere, fIsO, sFldS, setF, Rs.fd, Fd.d, O.d, fMethD, chF, sAppF, fPopF, fPop0, fPop1, sIns, sRetI, sRetNI, fZip, fML, opAny, opAll, opSorted, opMaxL, opMinL, opRfind, opCount, List.map_cons, List.map_nil, cInA, cNinA, inD, itD, fItA, eItA, cLtA, cLeA, fRr1, fRr2, opInt, sPar, fCallD, fRaise0, fRaise1, sTryAs, sTry, aftr, noX, allEq_const, fXf, fXi, fLc, lcL, unE, tYs, Vs.ret, xLock, inis, bof, sNil, sSeq, sAsg, sRet, sRetV, sRetN, sIf, sDrop, sTg, sFor, sBrk, sCnt, sApp, sExt, sOwn, sSetI, opSetI, sLock, unlk, sbnd, bnd, fOp, fCh, fCl, fCall, fLst, fTup, fSl, fIf, fAnd, fOr, fNot, fTru, fAndV, fOrV, fNotV, fNeg, fIsi, fM1, fM2, fRg1, fRg2, fEn, fRev, fSg, fTp, fIt, eIt, eB, eV, eC, frz, shm, aCons, aNil, poN, poS, Rs.d, Rs.sl, vB, List.cons_append, List.nil_append, List.append_nil, List.replicate_zero, List.replicate_succ, List.getElem?_cons_zero, List.getElem?_cons_succ, List.set_cons_zero, List.set_cons_succ, List.length_cons, List.length_nil, opLen, lenD, opList, opAdd, opSub, opMul, opMod, opDiv, opPow, opMin, opMax, opIx, opSl, cmpB, cEq, cNe, cIsN, cNotN, truD, tgN, tgT, setAll, isKd, opFind, opFind3, opStarts, opStarts3, Nat.reduceLT, Nat.reduceAdd, Nat.reduceSub, Nat.reduceLeDiff, Int.reduceLT, Int.reduceLE, Int.reduceNeg, reduceIte, and_self, true_and, and_true, decide_true, decide_false, Int.toNat_natCast, r8, d8, l1, l2, fld_order, fld_pacts]
theorem e_orow {L t : List Nat} {r : Rw} (hL : goodL L) (hr : r.ok L) (h : r = .len ∨ r = .right ∨ ∃ Z, r = .wts Z) (ht : t = r.txt) {od : D} (ho : IsO L od) (ps : List (List Nat × List Nat)) : ∃ od', IsO L od' ∧ g_Desk_order_row (dk od ps) [.str t] = some (.rt (.sh (.str t)) (dk od' ps)) := by
  have h1 := hL.1
  have h6 := hL.2.1
  have l1 := e_init (c := 1) (by simp) hL
  have l2 := e_init (c := 2) (by simp) hL
  obtain ⟨c, l, rfl, fl⟩ := letters_ob ho
  rcases h with rfl | rfl | ⟨Z, rfl⟩
  · refine ⟨_, .len, ?_⟩
    unfold g_Desk_order_row b_Desk_order_row i3_Desk_order_row dk
    simp (disch := first | omega | assumption) only [if_pos, if_neg, decide_eq_true, decide_eq_false, atI_of, cutL_take, cutL_drop, cutL_mid, ge_iff_le, gt_iff_lt, Int.reduceToNat, Int.toNat_zero, Int.toNat_one, Bool.not_true, Bool.not_false, szl, sStuck, fLenS, cGtA, sAppQ, sSetQ, sForT, forTL, opSortT, fDItems, fDKeys, fLcO, D.key, fDNew, fDGet, sDPutV, fDSet, fRg3, fChV, fSortL, frL, frS, fSortB, sRem, sqAt, eIxI, fItm, fItV, chS, sItC, sItA, sItI, sItS, fTmp, Sl.mut, Sl.th, O.d, sqD, D.atm, sTryR, fSq, aConsF, aNilF, eO, sTgF, setFd, Fd.sl, opJoinRev, fLRev, runDef, runDefI, ioAt, insA, chL, getO, setO, getL, setL, obAt, eFd, eFV, eFB, fFld, fMeth, fMethI, fMake, fCallI, aHere, fIsO, sFldS, setF, Rs.fd, Fd.d, O.d, fMethD, chF, sAppF, fPopF, fPop0, fPop1, sIns, sRetI, sRetNI, fZip, fML, opAny, opAll, opSorted, opMaxL, opMinL, opRfind, opCount, List.map_cons, List.map_nil, cInA, cNinA, inD, itD, fItA, eItA, cLtA, cLeA, fRr1, fRr2, opInt, sPar, fCallD, fRaise0, fRaise1, sTryAs, sTry, aftr, noX, allEq_const, fXf, fXi, fLc, lcL, unE, tYs, Vs.ret, xLock, inis, bof, sNil, sSeq, sAsg, sRet, sRetV, sRetN, sIf, sDrop, sTg, sFor, sBrk, sCnt, sApp, sExt, sOwn, sSetI, opSetI, sLock, unlk, sbnd, bnd, fOp, fCh, fCl, fCall, fLst, fTup, fSl, fIf, fAnd, fOr, fNot, fTru, fAndV, fOrV, fNotV, fNeg, fIsi, fM1, fM2, fRg1, fRg2, fEn, fRev, fSg, fTp, fIt, eIt, eB, eV, eC, frz, shm, aCons, aNil, poN, poS, Rs.d, Rs.sl, vB, List.cons_append, List.nil_append, List.append_nil, List.replicate_zero, List.replicate_succ, List.getElem?_cons_zero, List.getElem?_cons_succ, List.set_cons_zero, List.set_cons_succ, List.length_cons, List.length_nil, opLen, lenD, opList, opAdd, opSub, opMul, opMod, opDiv, opPow, opMin, opMax, opIx, opSl, cmpB, cEq, cNe, cIsN, cNotN, truD, tgN, tgT, setAll, isKd, opFind, opFind3, opStarts, opStarts3, Nat.reduceLT, Nat.reduceAdd, Nat.reduceSub, Nat.reduceLeDiff, Int.reduceLT, Int.reduceLE, Int.reduceNeg, reduceIte, and_self, true_and, and_true, decide_true, decide_false, Int.toNat_natCast, ht, Rw.txt, decide_true, fl, l1, fld_order]
  · refine ⟨_, .right, ?_⟩
    have n1 : ¬ t = [111, 114, 100, 101, 114, 32, 108, 101, 110, 103, 116, 104] := by rw [ht]; decide
    have n2 : t = [111, 114, 100, 101, 114, 32, 114, 105, 103, 104, 116] := ht
    unfold g_Desk_order_row b_Desk_order_row i3_Desk_order_row i2_Desk_order_row dk
    simp (disch := first | omega | assumption) only [if_pos, if_neg, decide_eq_true, decide_eq_false, atI_of, cutL_take, cutL_drop, cutL_mid, ge_iff_le, gt_iff_lt, Int.reduceToNat, Int.toNat_zero, Int.toNat_one, Bool.not_true, Bool.not_false, szl, sStuck, fLenS, cGtA, sAppQ, sSetQ, sForT, forTL, opSortT, fDItems, fDKeys, fLcO, D.key, fDNew, fDGet, sDPutV, fDSet, fRg3, fChV, fSortL, frL, frS, fSortB, sRem, sqAt, eIxI, fItm, fItV, chS, sItC, sItA, sItI, sItS, fTmp, Sl.mut, Sl.th, O.d, sqD, D.atm, sTryR, fSq, aConsF, aNilF, eO, sTgF, setFd, Fd.sl, opJoinRev, fLRev, runDef, runDefI, ioAt, insA, chL, getO, setO, getL, setL, obAt, eFd, eFV, eFB, fFld, fMeth, fMethI, fMake, fCallI, aHere, fIsO, sFldS, setF, Rs.fd, Fd.d, O.d, fMethD, chF, sAppF, fPopF, fPop0, fPop1, sIns, sRetI, sRetNI, fZip, fML, opAny, opAll, opSorted, opMaxL, opMinL, opRfind, opCount, List.map_cons, List.map_nil, cInA, cNinA, inD, itD, fItA, eItA, cLtA, cLeA, fRr1, fRr2, opInt, sPar, fCallD, fRaise0, fRaise1, sTryAs, sTry, aftr, noX, allEq_const, fXf, fXi, fLc, lcL, unE, tYs, Vs.ret, xLock, inis, bof, sNil, sSeq, sAsg, sRet, sRetV, sRetN, sIf, sDrop, sTg, sFor, sBrk, sCnt, sApp, sExt, sOwn, sSetI, opSetI, sLock, unlk, sbnd, bnd, fOp, fCh, fCl, fCall, fLst, fTup, fSl, fIf, fAnd, fOr, fNot, fTru, fAndV, fOrV, fNotV, fNeg, fIsi, fM1, fM2, fRg1, fRg2, fEn, fRev, fSg, fTp, fIt, eIt, eB, eV, eC, frz, shm, aCons, aNil, poN, poS, Rs.d, Rs.sl, vB, List.cons_append, List.nil_append, List.append_nil, List.replicate_zero, List.replicate_succ, List.getElem?_cons_zero, List.getElem?_cons_succ, List.set_cons_zero, List.set_cons_succ, List.length_cons, List.length_nil, opLen, lenD, opList, opAdd, opSub, opMul, opMod, opDiv, opPow, opMin, opMax, opIx, opSl, cmpB, cEq, cNe, cIsN, cNotN, truD, tgN, tgT, setAll, isKd, opFind, opFind3, opStarts, opStarts3, Nat.reduceLT, Nat.reduceAdd, Nat.reduceSub, Nat.reduceLeDiff, Int.reduceLT, Int.reduceLE, Int.reduceNeg, reduceIte, and_self, true_and, and_true, decide_true, decide_false, Int.toNat_natCast, decide_eq_false n1, decide_eq_true n2, fl, l2, fld_order]
  · obtain ⟨z1, z2⟩ := hr
    have l3 := e_initW hL z1 z2
    have hjl := (sum_num z2).2
    have hs := split_num z2 (fun e => by rw [e] at z1; simp at z1; omega) (by omega)
    have ht' : t = [111, 114, 100, 101, 114, 32, 119, 101, 105, 103, 104, 116, 115, 32] ++ jn Z := ht
    have n1 : ¬ t = [111, 114, 100, 101, 114, 32, 108, 101, 110, 103, 116, 104] := by
      rw [ht']
      intro e
      have := congrArg (fun l => l.getD 6 0) e
      simp at this
    have n2 : ¬ t = [111, 114, 100, 101, 114, 32, 114, 105, 103, 104, 116] := by
      rw [ht']
      intro e
      have := congrArg (fun l => l.getD 6 0) e
      simp at this
    have st : Txt.startswith (S t) (S [111, 114, 100, 101, 114, 32, 119, 101, 105, 103, 104, 116, 115, 32]) = true := by
      rw [starts_eq, ht']
      simp
    have d14 : t.drop 14 = jn Z := by rw [ht']; rfl
    have tl : t.length ≤ 100 := by rw [ht', List.length_append]; simp; omega
    have r14 : Int.toNat 14 = 14 := rfl
    obtain ⟨j, f1⟩ := lcL_fun (f := tgN 3) (te := frz (fCall g_weight_of (aCons (eB 3) (aNil)))) (vs := [3]) (fun (_ : Unit) => [.io (dk (.ob c (.str L :: l)) ps), .sh (.str t), .un, .un]) (fun (z : Nat) => D.str (TL.numL z)) (fun (z : Nat) => D.int (z : Int)) Z [] () fun z hz _ => by
      have w1 := e_weight_of (z2 z hz).1 (z2 z hz).2
      refine ⟨_, rfl, [.io (dk (.ob c (.str L :: l)) ps), .sh (.str t), .un, .sh (.str (TL.numL z))], ?_, (), rfl⟩
      simp (disch := first | omega | assumption) only [if_pos, if_neg, decide_eq_true, decide_eq_false, atI_of, cutL_take, cutL_drop, cutL_mid, ge_iff_le, gt_iff_lt, Int.reduceToNat, Int.toNat_zero, Int.toNat_one, Bool.not_true, Bool.not_false, szl, sStuck, fLenS, cGtA, sAppQ, sSetQ, sForT, forTL, opSortT, fDItems, fDKeys, fLcO, D.key, fDNew, fDGet, sDPutV, fDSet, fRg3, fChV, fSortL, frL, frS, fSortB, sRem, sqAt, eIxI, fItm, fItV, chS, sItC, sItA, sItI, sItS, fTmp, Sl.mut, Sl.th, O.d, sqD, D.atm, sTryR, fSq, aConsF, aNilF, eO, sTgF, setFd, Fd.sl, opJoinRev, fLRev, runDef, runDefI, ioAt, insA, chL, getO, setO, getL, setL, obAt, eFd, eFV, eFB, fFld, fMeth, fMethI, fMake, fCallI, aHere, fIsO, sFldS, setF, Rs.fd, Fd.d, O.d, fMethD, chF, sAppF, fPopF, fPop0, fPop1, sIns, sRetI, sRetNI, fZip, fML, opAny, opAll, opSorted, opMaxL, opMinL, opRfind, opCount, List.map_cons, List.map_nil, cInA, cNinA, inD, itD, fItA, eItA, cLtA, cLeA, fRr1, fRr2, opInt, sPar, fCallD, fRaise0, fRaise1, sTryAs, sTry, aftr, noX, allEq_const, fXf, fXi, fLc, lcL, unE, tYs, Vs.ret, xLock, inis, bof, sNil, sSeq, sAsg, sRet, sRetV, sRetN, sIf, sDrop, sTg, sFor, sBrk, sCnt, sApp, sExt, sOwn, sSetI, opSetI, sLock, unlk, sbnd, bnd, fOp, fCh, fCl, fCall, fLst, fTup, fSl, fIf, fAnd, fOr, fNot, fTru, fAndV, fOrV, fNotV, fNeg, fIsi, fM1, fM2, fRg1, fRg2, fEn, fRev, fSg, fTp, fIt, eIt, eB, eV, eC, frz, shm, aCons, aNil, poN, poS, Rs.d, Rs.sl, vB, List.cons_append, List.nil_append, List.append_nil, List.replicate_zero, List.replicate_succ, List.getElem?_cons_zero, List.getElem?_cons_succ, List.set_cons_zero, List.set_cons_succ, List.length_cons, List.length_nil, opLen, lenD, opList, opAdd, opSub, opMul, opMod, opDiv, opPow, opMin, opMax, opIx, opSl, cmpB, cEq, cNe, cIsN, cNotN, truD, tgN, tgT, setAll, isKd, opFind, opFind3, opStarts, opStarts3, Nat.reduceLT, Nat.reduceAdd, Nat.reduceSub, Nat.reduceLeDiff, Int.reduceLT, Int.reduceLE, Int.reduceNeg, reduceIte, and_self, true_and, and_true, decide_true, decide_false, Int.toNat_natCast, w1]
    have f1' : lcL (tgN 3) tYs (frz (fCall g_weight_of (aCons (eB 3) (aNil)))) [3] ((Z.map TL.numL).map D.str) [] [.io (dk (.ob c (.str L :: l)) ps), .sh (.str t), .un, .un] = some (.ok (.ow (Z.map fun (z : Nat) => D.int (z : Int))) [.io (dk (.ob c (.str L :: l)) ps), .sh (.str t), .un, .un]) := by
      rw [List.map_map]
      exact f1
    obtain ⟨V, hV⟩ : ∃ V, V = (Z.map TL.numL).map D.str := ⟨_, rfl⟩
    have hVl : V.length ≤ 1000000 := by rw [hV, List.length_map, List.length_map]; omega
    rw [← hV] at f1' hs
    refine ⟨.ob 3 (.str L :: [.lst (Z.map fun (z : Nat) => D.int (z : Int))]), .wts _, ?_⟩
    unfold dk at f1'
    unfold g_Desk_order_row b_Desk_order_row i3_Desk_order_row i2_Desk_order_row i1_Desk_order_row dk
    simp (disch := first | omega | assumption) only [if_pos, if_neg, decide_eq_true, decide_eq_false, atI_of, cutL_take, cutL_drop, cutL_mid, ge_iff_le, gt_iff_lt, Int.reduceToNat, Int.toNat_zero, Int.toNat_one, Bool.not_true, Bool.not_false, szl, sStuck, fLenS, cGtA, sAppQ, sSetQ, sForT, forTL, opSortT, fDItems, fDKeys, fLcO, D.key, fDNew, fDGet, sDPutV, fDSet, fRg3, fChV, fSortL, frL, frS, fSortB, sRem, sqAt, eIxI, fItm, fItV, chS, sItC, sItA, sItI, sItS, fTmp, Sl.mut, Sl.th, O.d, sqD, D.atm, sTryR, fSq, aConsF, aNilF, eO, sTgF, setFd, Fd.sl, opJoinRev, fLRev, runDef, runDefI, ioAt, insA, chL, getO, setO, getL, setL, obAt, eFd, eFV, eFB, fFld, fMeth, fMethI, fMake, fCallI, aHere, fIsO, sFldS, setF, Rs.fd, Fd.d, O.d, fMethD, chF, sAppF, fPopF, fPop0, fPop1, sIns, sRetI, sRetNI, fZip, fML, opAny, opAll, opSorted, opMaxL, opMinL, opRfind, opCount, List.map_cons, List.map_nil, cInA, cNinA, inD, itD, fItA, eItA, cLtA, cLeA, fRr1, fRr2, opInt, sPar, fCallD, fRaise0, fRaise1, sTryAs, sTry, aftr, noX, allEq_const, fXf, fXi, fLc, lcL, unE, tYs, Vs.ret, xLock, inis, bof, sNil, sSeq, sAsg, sRet, sRetV, sRetN, sIf, sDrop, sTg, sFor, sBrk, sCnt, sApp, sExt, sOwn, sSetI, opSetI, sLock, unlk, sbnd, bnd, fOp, fCh, fCl, fCall, fLst, fTup, fSl, fIf, fAnd, fOr, fNot, fTru, fAndV, fOrV, fNotV, fNeg, fIsi, fM1, fM2, fRg1, fRg2, fEn, fRev, fSg, fTp, fIt, eIt, eB, eV, eC, frz, shm, aCons, aNil, poN, poS, Rs.d, Rs.sl, vB, List.cons_append, List.nil_append, List.append_nil, List.replicate_zero, List.replicate_succ, List.getElem?_cons_zero, List.getElem?_cons_succ, List.set_cons_zero, List.set_cons_succ, List.length_cons, List.length_nil, opLen, lenD, opList, opAdd, opSub, opMul, opMod, opDiv, opPow, opMin, opMax, opIx, opSl, cmpB, cEq, cNe, cIsN, cNotN, truD, tgN, tgT, setAll, isKd, opFind, opFind3, opStarts, opStarts3, Nat.reduceLT, Nat.reduceAdd, Nat.reduceSub, Nat.reduceLeDiff, Int.reduceLT, Int.reduceLE, Int.reduceNeg, reduceIte, and_self, true_and, and_true, decide_true, decide_false, Int.toNat_natCast] at f1'
    simp (disch := first | omega | assumption) only [if_pos, if_neg, decide_eq_true, decide_eq_false, atI_of, cutL_take, cutL_drop, cutL_mid, ge_iff_le, gt_iff_lt, Int.reduceToNat, Int.toNat_zero, Int.toNat_one, Bool.not_true, Bool.not_false, szl, sStuck, fLenS, cGtA, sAppQ, sSetQ, sForT, forTL, opSortT, fDItems, fDKeys, fLcO, D.key, fDNew, fDGet, sDPutV, fDSet, fRg3, fChV, fSortL, frL, frS, fSortB, sRem, sqAt, eIxI, fItm, fItV, chS, sItC, sItA, sItI, sItS, fTmp, Sl.mut, Sl.th, O.d, sqD, D.atm, sTryR, fSq, aConsF, aNilF, eO, sTgF, setFd, Fd.sl, opJoinRev, fLRev, runDef, runDefI, ioAt, insA, chL, getO, setO, getL, setL, obAt, eFd, eFV, eFB, fFld, fMeth, fMethI, fMake, fCallI, aHere, fIsO, sFldS, setF, Rs.fd, Fd.d, O.d, fMethD, chF, sAppF, fPopF, fPop0, fPop1, sIns, sRetI, sRetNI, fZip, fML, opAny, opAll, opSorted, opMaxL, opMinL, opRfind, opCount, List.map_cons, List.map_nil, cInA, cNinA, inD, itD, fItA, eItA, cLtA, cLeA, fRr1, fRr2, opInt, sPar, fCallD, fRaise0, fRaise1, sTryAs, sTry, aftr, noX, allEq_const, fXf, fXi, fLc, lcL, unE, tYs, Vs.ret, xLock, inis, bof, sNil, sSeq, sAsg, sRet, sRetV, sRetN, sIf, sDrop, sTg, sFor, sBrk, sCnt, sApp, sExt, sOwn, sSetI, opSetI, sLock, unlk, sbnd, bnd, fOp, fCh, fCl, fCall, fLst, fTup, fSl, fIf, fAnd, fOr, fNot, fTru, fAndV, fOrV, fNotV, fNeg, fIsi, fM1, fM2, fRg1, fRg2, fEn, fRev, fSg, fTp, fIt, eIt, eB, eV, eC, frz, shm, aCons, aNil, poN, poS, Rs.d, Rs.sl, vB, List.cons_append, List.nil_append, List.append_nil, List.replicate_zero, List.replicate_succ, List.getElem?_cons_zero, List.getElem?_cons_succ, List.set_cons_zero, List.set_cons_succ, List.length_cons, List.length_nil, opLen, lenD, opList, opAdd, opSub, opMul, opMod, opDiv, opPow, opMin, opMax, opIx, opSl, cmpB, cEq, cNe, cIsN, cNotN, truD, tgN, tgT, setAll, isKd, opFind, opFind3, opStarts, opStarts3, Nat.reduceLT, Nat.reduceAdd, Nat.reduceSub, Nat.reduceLeDiff, Int.reduceLT, Int.reduceLE, Int.reduceNeg, reduceIte, and_self, true_and, and_true, decide_true, decide_false, Int.toNat_natCast, decide_eq_false n1, decide_eq_false n2, st, r14, d14, hs, f1', fl, l3, fld_order]
theorem e_prow {L t a b : List Nat} (hL : goodL L) (hr : inW L a ∧ inW L b) (ht : t = ptx (a, b)) {od : D} (ho : IsO L od) (ps : List (List Nat × List Nat)) (hps : ps.length ≤ 8) : g_Desk_pact_row (dk od ps) [.str t] = if ps.length = 8 then some (.ex ⟨x_TooMany, none⟩ (dk od ps)) else some (.rt (.sh (.str ([112, 97, 99, 116, 32] ++ TL.numL ps.length))) (dk od (ps ++ [(a, b)]))) := by
  obtain ⟨c, l, rfl, fl⟩ := letters_ob ho
  have la := shw_len (w := a) (by have := hr.1.1; omega)
  have lb := shw_len (w := b) (by have := hr.2.1; omega)
  have d5 : t.drop 5 = shw a ++ sep3 ++ shw b := by rw [ht]; rfl
  have ptl : (shw a ++ sep3 ++ shw b).length ≤ 200 := by rw [List.length_append, List.length_append]; show _ + 3 + _ ≤ 200; omega
  have tl : t.length ≤ 1000 := by
    rw [ht]
    unfold ptx
    rw [List.length_append]
    show 5 + (shw a ++ sep3 ++ shw b).length ≤ _
    omega
  have r5 : Int.toNat 5 = 5 := rfl
  have hp := e_read_pact L (shw a ++ sep3 ++ shw b) 10 (by omega)
  rw [outc_10 hr.1.2 hr.2.2 hL.2.2.2 hr.1.1 hr.2.1] at hp
  dsimp only at hp
  have ml : (ps.map pD).length = ps.length := List.length_map ..
  unfold g_Desk_pact_row b_Desk_pact_row i1_Desk_pact_row dk
  by_cases h8 : ps.length = 8
  · have h8' : (ps.length : Int) ≥ 8 := by omega
    rw [if_pos h8]
    simp (disch := first | omega | assumption) only [if_pos, if_neg, decide_eq_true, decide_eq_false, atI_of, cutL_take, cutL_drop, cutL_mid, ge_iff_le, gt_iff_lt, Int.reduceToNat, Int.toNat_zero, Int.toNat_one, Bool.not_true, Bool.not_false, szl, sStuck, fLenS, cGtA, sAppQ, sSetQ, sForT, forTL, opSortT, fDItems, fDKeys, fLcO, D.key, fDNew, fDGet, sDPutV, fDSet, fRg3, fChV, fSortL, frL, frS, fSortB, sRem, sqAt, eIxI, fItm, fItV, chS, sItC, sItA, sItI, sItS, fTmp, Sl.mut, Sl.th, O.d, sqD, D.atm, sTryR, fSq, aConsF, aNilF, eO, sTgF, setFd, Fd.sl, opJoinRev, fLRev, runDef, runDefI, ioAt, insA, chL, getO, setO, getL, setL, obAt, eFd, eFV, eFB, fFld, fMeth, fMethI, fMake, fCallI, aHere, fIsO, sFldS, setF, Rs.fd, Fd.d, O.d, fMethD, chF, sAppF, fPopF, fPop0, fPop1, sIns, sRetI, sRetNI, fZip, fML, opAny, opAll, opSorted, opMaxL, opMinL, opRfind, opCount, List.map_cons, List.map_nil, cInA, cNinA, inD, itD, fItA, eItA, cLtA, cLeA, fRr1, fRr2, opInt, sPar, fCallD, fRaise0, fRaise1, sTryAs, sTry, aftr, noX, allEq_const, fXf, fXi, fLc, lcL, unE, tYs, Vs.ret, xLock, inis, bof, sNil, sSeq, sAsg, sRet, sRetV, sRetN, sIf, sDrop, sTg, sFor, sBrk, sCnt, sApp, sExt, sOwn, sSetI, opSetI, sLock, unlk, sbnd, bnd, fOp, fCh, fCl, fCall, fLst, fTup, fSl, fIf, fAnd, fOr, fNot, fTru, fAndV, fOrV, fNotV, fNeg, fIsi, fM1, fM2, fRg1, fRg2, fEn, fRev, fSg, fTp, fIt, eIt, eB, eV, eC, frz, shm, aCons, aNil, poN, poS, Rs.d, Rs.sl, vB, List.cons_append, List.nil_append, List.append_nil, List.replicate_zero, List.replicate_succ, List.getElem?_cons_zero, List.getElem?_cons_succ, List.set_cons_zero, List.set_cons_succ, List.length_cons, List.length_nil, opLen, lenD, opList, opAdd, opSub, opMul, opMod, opDiv, opPow, opMin, opMax, opIx, opSl, cmpB, cEq, cNe, cIsN, cNotN, truD, tgN, tgT, setAll, isKd, opFind, opFind3, opStarts, opStarts3, Nat.reduceLT, Nat.reduceAdd, Nat.reduceSub, Nat.reduceLeDiff, Int.reduceLT, Int.reduceLE, Int.reduceNeg, reduceIte, and_self, true_and, and_true, decide_true, decide_false, Int.toNat_natCast, fl, r5, d5, hp, ml, decide_eq_true h8', fld_order, fld_pacts]
  · have h8' : ¬ (ps.length : Int) ≥ 8 := by omega
    rw [if_neg h8]
    have e : (ps ++ [(a, b)]).map pD = ps.map pD ++ [.tup [.str a, .str b]] := by rw [List.map_append]; rfl
    obtain ⟨M, hM⟩ : ∃ M, M = ps.map pD := ⟨_, rfl⟩
    rw [e, ← hM]
    rw [← hM] at ml
    have hl : (M ++ [D.tup [.str a, .str b]]).length = ps.length + 1 := by rw [List.length_append, ml]; rfl
    obtain ⟨N, hN⟩ : ∃ N : Nat, N = ps.length := ⟨_, rfl⟩
    have hs := num_str (n := N) (by omega)
    have e1 : ((N + 1 : Nat) : Int) - 1 = (N : Int) := by omega
    have nl := num_len (n := N) (by omega)
    rw [← hN] at ml hl h8' ⊢
    have hs' : opStr [D.int (((M ++ [D.tup [D.str a, D.str b]]).length : Int) - 1)] = some (.sh (.str (TL.numL N))) := by rw [hl, e1]; exact hs
    simp (disch := first | omega | assumption) only [if_pos, if_neg, decide_eq_true, decide_eq_false, atI_of, cutL_take, cutL_drop, cutL_mid, ge_iff_le, gt_iff_lt, Int.reduceToNat, Int.toNat_zero, Int.toNat_one, Bool.not_true, Bool.not_false, szl, sStuck, fLenS, cGtA, sAppQ, sSetQ, sForT, forTL, opSortT, fDItems, fDKeys, fLcO, D.key, fDNew, fDGet, sDPutV, fDSet, fRg3, fChV, fSortL, frL, frS, fSortB, sRem, sqAt, eIxI, fItm, fItV, chS, sItC, sItA, sItI, sItS, fTmp, Sl.mut, Sl.th, O.d, sqD, D.atm, sTryR, fSq, aConsF, aNilF, eO, sTgF, setFd, Fd.sl, opJoinRev, fLRev, runDef, runDefI, ioAt, insA, chL, getO, setO, getL, setL, obAt, eFd, eFV, eFB, fFld, fMeth, fMethI, fMake, fCallI, aHere, fIsO, sFldS, setF, Rs.fd, Fd.d, O.d, fMethD, chF, sAppF, fPopF, fPop0, fPop1, sIns, sRetI, sRetNI, fZip, fML, opAny, opAll, opSorted, opMaxL, opMinL, opRfind, opCount, List.map_cons, List.map_nil, cInA, cNinA, inD, itD, fItA, eItA, cLtA, cLeA, fRr1, fRr2, opInt, sPar, fCallD, fRaise0, fRaise1, sTryAs, sTry, aftr, noX, allEq_const, fXf, fXi, fLc, lcL, unE, tYs, Vs.ret, xLock, inis, bof, sNil, sSeq, sAsg, sRet, sRetV, sRetN, sIf, sDrop, sTg, sFor, sBrk, sCnt, sApp, sExt, sOwn, sSetI, opSetI, sLock, unlk, sbnd, bnd, fOp, fCh, fCl, fCall, fLst, fTup, fSl, fIf, fAnd, fOr, fNot, fTru, fAndV, fOrV, fNotV, fNeg, fIsi, fM1, fM2, fRg1, fRg2, fEn, fRev, fSg, fTp, fIt, eIt, eB, eV, eC, frz, shm, aCons, aNil, poN, poS, Rs.d, Rs.sl, vB, List.cons_append, List.nil_append, List.append_nil, List.replicate_zero, List.replicate_succ, List.getElem?_cons_zero, List.getElem?_cons_succ, List.set_cons_zero, List.set_cons_succ, List.length_cons, List.length_nil, opLen, lenD, opList, opAdd, opSub, opMul, opMod, opDiv, opPow, opMin, opMax, opIx, opSl, cmpB, cEq, cNe, cIsN, cNotN, truD, tgN, tgT, setAll, isKd, opFind, opFind3, opStarts, opStarts3, Nat.reduceLT, Nat.reduceAdd, Nat.reduceSub, Nat.reduceLeDiff, Int.reduceLT, Int.reduceLE, Int.reduceNeg, reduceIte, and_self, true_and, and_true, decide_true, decide_false, Int.toNat_natCast, fl, r5, d5, hp, ml, decide_eq_false h8', fld_order, fld_pacts, hs']
theorem e_drow0 (od : D) : g_Desk_drop_row (dk od []) [] = some (.ex ⟨x_NoRow, none⟩ (dk od [])) := by
  unfold g_Desk_drop_row b_Desk_drop_row i1_Desk_drop_row dk
  simp (disch := first | omega | assumption) only [if_pos, if_neg, decide_eq_true, decide_eq_false, atI_of, cutL_take, cutL_drop, cutL_mid, ge_iff_le, gt_iff_lt, Int.reduceToNat, Int.toNat_zero, Int.toNat_one, Bool.not_true, Bool.not_false, szl, sStuck, fLenS, cGtA, sAppQ, sSetQ, sForT, forTL, opSortT, fDItems, fDKeys, fLcO, D.key, fDNew, fDGet, sDPutV, fDSet, fRg3, fChV, fSortL, frL, frS, fSortB, sRem, sqAt, eIxI, fItm, fItV, chS, sItC, sItA, sItI, sItS, fTmp, Sl.mut, Sl.th, O.d, sqD, D.atm, sTryR, fSq, aConsF, aNilF, eO, sTgF, setFd, Fd.sl, opJoinRev, fLRev, runDef, runDefI, ioAt, insA, chL, getO, setO, getL, setL, obAt, eFd, eFV, eFB, fFld, fMeth, fMethI, fMake, fCallI, aHere, fIsO, sFldS, setF, Rs.fd, Fd.d, O.d, fMethD, chF, sAppF, fPopF, fPop0, fPop1, sIns, sRetI, sRetNI, fZip, fML, opAny, opAll, opSorted, opMaxL, opMinL, opRfind, opCount, List.map_cons, List.map_nil, cInA, cNinA, inD, itD, fItA, eItA, cLtA, cLeA, fRr1, fRr2, opInt, sPar, fCallD, fRaise0, fRaise1, sTryAs, sTry, aftr, noX, allEq_const, fXf, fXi, fLc, lcL, unE, tYs, Vs.ret, xLock, inis, bof, sNil, sSeq, sAsg, sRet, sRetV, sRetN, sIf, sDrop, sTg, sFor, sBrk, sCnt, sApp, sExt, sOwn, sSetI, opSetI, sLock, unlk, sbnd, bnd, fOp, fCh, fCl, fCall, fLst, fTup, fSl, fIf, fAnd, fOr, fNot, fTru, fAndV, fOrV, fNotV, fNeg, fIsi, fM1, fM2, fRg1, fRg2, fEn, fRev, fSg, fTp, fIt, eIt, eB, eV, eC, frz, shm, aCons, aNil, poN, poS, Rs.d, Rs.sl, vB, List.cons_append, List.nil_append, List.append_nil, List.replicate_zero, List.replicate_succ, List.getElem?_cons_zero, List.getElem?_cons_succ, List.set_cons_zero, List.set_cons_succ, List.length_cons, List.length_nil, opLen, lenD, opList, opAdd, opSub, opMul, opMod, opDiv, opPow, opMin, opMax, opIx, opSl, cmpB, cEq, cNe, cIsN, cNotN, truD, tgN, tgT, setAll, isKd, opFind, opFind3, opStarts, opStarts3, Nat.reduceLT, Nat.reduceAdd, Nat.reduceSub, Nat.reduceLeDiff, Int.reduceLT, Int.reduceLE, Int.reduceNeg, reduceIte, and_self, true_and, and_true, decide_true, decide_false, Int.toNat_natCast, fld_pacts, List.isEmpty_nil, Bool.not_true, Bool.not_false]
theorem e_drow (od : D) (ps : List (List Nat × List Nat)) (p : List Nat × List Nat) (h1 : p.1.length ≤ 60) (h2 : p.2.length ≤ 60) : g_Desk_drop_row (dk od (ps ++ [p])) [] = some (.rt (.sh (.str (ptx p))) (dk od ps)) := by
  have hp := e_shown_pact h1 h2
  have la := shw_len h1
  have lb := shw_len h2
  have ptl : (shw p.1 ++ sep3 ++ shw p.2).length ≤ 200 := by rw [List.length_append, List.length_append]; show _ + 3 + _ ≤ 200; omega
  have e : (ps ++ [p]).map pD = ps.map pD ++ [.tup [.str p.1, .str p.2]] := by rw [List.map_append]; rfl
  obtain ⟨M, hM⟩ : ∃ M, M = ps.map pD ++ [.tup [.str p.1, .str p.2]] := ⟨_, rfl⟩
  have hne : M.isEmpty = false := by rw [hM]; simp
  have hat : M[M.length - 1]? = some (.tup [.str p.1, .str p.2]) := by
    rw [hM, List.length_append]
    simp
  have hd : M.dropLast = ps.map pD := by rw [hM]; simp
  unfold g_Desk_drop_row b_Desk_drop_row i1_Desk_drop_row dk
  rw [e, ← hM]
  simp (disch := first | omega | assumption) only [if_pos, if_neg, decide_eq_true, decide_eq_false, atI_of, cutL_take, cutL_drop, cutL_mid, ge_iff_le, gt_iff_lt, Int.reduceToNat, Int.toNat_zero, Int.toNat_one, Bool.not_true, Bool.not_false, szl, sStuck, fLenS, cGtA, sAppQ, sSetQ, sForT, forTL, opSortT, fDItems, fDKeys, fLcO, D.key, fDNew, fDGet, sDPutV, fDSet, fRg3, fChV, fSortL, frL, frS, fSortB, sRem, sqAt, eIxI, fItm, fItV, chS, sItC, sItA, sItI, sItS, fTmp, Sl.mut, Sl.th, O.d, sqD, D.atm, sTryR, fSq, aConsF, aNilF, eO, sTgF, setFd, Fd.sl, opJoinRev, fLRev, runDef, runDefI, ioAt, insA, chL, getO, setO, getL, setL, obAt, eFd, eFV, eFB, fFld, fMeth, fMethI, fMake, fCallI, aHere, fIsO, sFldS, setF, Rs.fd, Fd.d, O.d, fMethD, chF, sAppF, fPopF, fPop0, fPop1, sIns, sRetI, sRetNI, fZip, fML, opAny, opAll, opSorted, opMaxL, opMinL, opRfind, opCount, List.map_cons, List.map_nil, cInA, cNinA, inD, itD, fItA, eItA, cLtA, cLeA, fRr1, fRr2, opInt, sPar, fCallD, fRaise0, fRaise1, sTryAs, sTry, aftr, noX, allEq_const, fXf, fXi, fLc, lcL, unE, tYs, Vs.ret, xLock, inis, bof, sNil, sSeq, sAsg, sRet, sRetV, sRetN, sIf, sDrop, sTg, sFor, sBrk, sCnt, sApp, sExt, sOwn, sSetI, opSetI, sLock, unlk, sbnd, bnd, fOp, fCh, fCl, fCall, fLst, fTup, fSl, fIf, fAnd, fOr, fNot, fTru, fAndV, fOrV, fNotV, fNeg, fIsi, fM1, fM2, fRg1, fRg2, fEn, fRev, fSg, fTp, fIt, eIt, eB, eV, eC, frz, shm, aCons, aNil, poN, poS, Rs.d, Rs.sl, vB, List.cons_append, List.nil_append, List.append_nil, List.replicate_zero, List.replicate_succ, List.getElem?_cons_zero, List.getElem?_cons_succ, List.set_cons_zero, List.set_cons_succ, List.length_cons, List.length_nil, opLen, lenD, opList, opAdd, opSub, opMul, opMod, opDiv, opPow, opMin, opMax, opIx, opSl, cmpB, cEq, cNe, cIsN, cNotN, truD, tgN, tgT, setAll, isKd, opFind, opFind3, opStarts, opStarts3, Nat.reduceLT, Nat.reduceAdd, Nat.reduceSub, Nat.reduceLeDiff, Int.reduceLT, Int.reduceLE, Int.reduceNeg, reduceIte, and_self, true_and, and_true, decide_true, decide_false, Int.toNat_natCast, fld_pacts, hat, hd, hp, hne, Bool.not_true, Bool.not_false]
  rfl

/-! k91: told, and what is due -/
def lets8 : List Nat := [108, 101, 116, 116, 101, 114, 115, 32]
def ord6 : List Nat := [111, 114, 100, 101, 114, 32]
def pct5 : List Nat := [112, 97, 99, 116, 32]
theorem st_of {t a b : List Nat} (h : t = a ++ b) : Txt.startswith (S t) (S a) = true := by
  rw [starts_eq, h]
  simp
theorem st_no {t a : List Nat} (h : t.head? ≠ a.head?) (ha : a ≠ []) : Txt.startswith (S t) (S a) = false := by
  rw [starts_eq]
  cases a with
  | nil => exact absurd rfl ha
  | cons x a =>
    cases t with
    | nil => simp
    | cons y t =>
      have : ¬ y = x := fun e => h (by rw [e]; rfl)
      simp [this]
theorem e_tell_lets {T : List Nat} (hT : goodL T) (od : D) (ps : List (List Nat × List Nat)) : g_Desk_told (dk od ps) [.str (lets8 ++ T)] = some (.rt (.sh (.str (lets8 ++ T))) (dk (.ob 1 [.str T]) [])) := by
  obtain ⟨t, ht⟩ : ∃ t, t = lets8 ++ T := ⟨_, rfl⟩
  rw [← ht]
  have h := e_lrow ht hT od ps
  have s1 : Txt.startswith (S t) (S [108, 101, 116, 116, 101, 114, 115, 32]) = true := st_of ht
  unfold dk at h
  unfold g_Desk_told b_Desk_told i1_Desk_told dk
  simp (disch := first | omega | assumption) only [if_pos, if_neg, decide_eq_true, decide_eq_false, atI_of, cutL_take, cutL_drop, cutL_mid, ge_iff_le, gt_iff_lt, Int.reduceToNat, Int.toNat_zero, Int.toNat_one, Bool.not_true, Bool.not_false, szl, sStuck, fLenS, cGtA, sAppQ, sSetQ, sForT, forTL, opSortT, fDItems, fDKeys, fLcO, D.key, fDNew, fDGet, sDPutV, fDSet, fRg3, fChV, fSortL, frL, frS, fSortB, sRem, sqAt, eIxI, fItm, fItV, chS, sItC, sItA, sItI, sItS, fTmp, Sl.mut, Sl.th, O.d, sqD, D.atm, sTryR, fSq, aConsF, aNilF, eO, sTgF, setFd, Fd.sl, opJoinRev, fLRev, runDef, runDefI, ioAt, insA, chL, getO, setO, getL, setL, obAt, eFd, eFV, eFB, fFld, fMeth, fMethI, fMake, fCallI, aHere, fIsO, sFldS, setF, Rs.fd, Fd.d, O.d, fMethD, chF, sAppF, fPopF, fPop0, fPop1, sIns, sRetI, sRetNI, fZip, fML, opAny, opAll, opSorted, opMaxL, opMinL, opRfind, opCount, List.map_cons, List.map_nil, cInA, cNinA, inD, itD, fItA, eItA, cLtA, cLeA, fRr1, fRr2, opInt, sPar, fCallD, fRaise0, fRaise1, sTryAs, sTry, aftr, noX, allEq_const, fXf, fXi, fLc, lcL, unE, tYs, Vs.ret, xLock, inis, bof, sNil, sSeq, sAsg, sRet, sRetV, sRetN, sIf, sDrop, sTg, sFor, sBrk, sCnt, sApp, sExt, sOwn, sSetI, opSetI, sLock, unlk, sbnd, bnd, fOp, fCh, fCl, fCall, fLst, fTup, fSl, fIf, fAnd, fOr, fNot, fTru, fAndV, fOrV, fNotV, fNeg, fIsi, fM1, fM2, fRg1, fRg2, fEn, fRev, fSg, fTp, fIt, eIt, eB, eV, eC, frz, shm, aCons, aNil, poN, poS, Rs.d, Rs.sl, vB, List.cons_append, List.nil_append, List.append_nil, List.replicate_zero, List.replicate_succ, List.getElem?_cons_zero, List.getElem?_cons_succ, List.set_cons_zero, List.set_cons_succ, List.length_cons, List.length_nil, opLen, lenD, opList, opAdd, opSub, opMul, opMod, opDiv, opPow, opMin, opMax, opIx, opSl, cmpB, cEq, cNe, cIsN, cNotN, truD, tgN, tgT, setAll, isKd, opFind, opFind3, opStarts, opStarts3, Nat.reduceLT, Nat.reduceAdd, Nat.reduceSub, Nat.reduceLeDiff, Int.reduceLT, Int.reduceLE, Int.reduceNeg, reduceIte, and_self, true_and, and_true, decide_true, decide_false, Int.toNat_natCast, s1, h]
theorem e_tell_ord {L t : List Nat} {r : Rw} (hL : goodL L) (hr : r.ok L) (h : r = .len ∨ r = .right ∨ ∃ Z, r = .wts Z) (ht : t = r.txt) {od : D} (ho : IsO L od) (ps : List (List Nat × List Nat)) : ∃ od', IsO L od' ∧ g_Desk_told (dk od ps) [.str t] = some (.rt (.sh (.str t)) (dk od' ps)) := by
  obtain ⟨od', o1, o2⟩ := e_orow hL hr h ht ho ps
  refine ⟨od', o1, ?_⟩
  have hh : t.head? = some 111 ∧ ∃ u, t = ord6 ++ u := by
    rw [ht]
    rcases h with rfl | rfl | ⟨Z, rfl⟩
    · exact ⟨rfl, _, rfl⟩
    · exact ⟨rfl, _, rfl⟩
    · exact ⟨rfl, _, rfl⟩
  obtain ⟨h1, u, h2⟩ := hh
  have s1 : Txt.startswith (S t) (S [108, 101, 116, 116, 101, 114, 115, 32]) = false := st_no (by rw [h1]; decide) (by decide)
  have s2 : Txt.startswith (S t) (S [111, 114, 100, 101, 114, 32]) = true := st_of h2
  obtain ⟨c, l, rfl, fl⟩ := letters_ob ho
  unfold dk at o2
  unfold g_Desk_told b_Desk_told i1_Desk_told i2_Desk_told i3_Desk_told dk
  simp (disch := first | omega | assumption) only [if_pos, if_neg, decide_eq_true, decide_eq_false, atI_of, cutL_take, cutL_drop, cutL_mid, ge_iff_le, gt_iff_lt, Int.reduceToNat, Int.toNat_zero, Int.toNat_one, Bool.not_true, Bool.not_false, szl, sStuck, fLenS, cGtA, sAppQ, sSetQ, sForT, forTL, opSortT, fDItems, fDKeys, fLcO, D.key, fDNew, fDGet, sDPutV, fDSet, fRg3, fChV, fSortL, frL, frS, fSortB, sRem, sqAt, eIxI, fItm, fItV, chS, sItC, sItA, sItI, sItS, fTmp, Sl.mut, Sl.th, O.d, sqD, D.atm, sTryR, fSq, aConsF, aNilF, eO, sTgF, setFd, Fd.sl, opJoinRev, fLRev, runDef, runDefI, ioAt, insA, chL, getO, setO, getL, setL, obAt, eFd, eFV, eFB, fFld, fMeth, fMethI, fMake, fCallI, aHere, fIsO, sFldS, setF, Rs.fd, Fd.d, O.d, fMethD, chF, sAppF, fPopF, fPop0, fPop1, sIns, sRetI, sRetNI, fZip, fML, opAny, opAll, opSorted, opMaxL, opMinL, opRfind, opCount, List.map_cons, List.map_nil, cInA, cNinA, inD, itD, fItA, eItA, cLtA, cLeA, fRr1, fRr2, opInt, sPar, fCallD, fRaise0, fRaise1, sTryAs, sTry, aftr, noX, allEq_const, fXf, fXi, fLc, lcL, unE, tYs, Vs.ret, xLock, inis, bof, sNil, sSeq, sAsg, sRet, sRetV, sRetN, sIf, sDrop, sTg, sFor, sBrk, sCnt, sApp, sExt, sOwn, sSetI, opSetI, sLock, unlk, sbnd, bnd, fOp, fCh, fCl, fCall, fLst, fTup, fSl, fIf, fAnd, fOr, fNot, fTru, fAndV, fOrV, fNotV, fNeg, fIsi, fM1, fM2, fRg1, fRg2, fEn, fRev, fSg, fTp, fIt, eIt, eB, eV, eC, frz, shm, aCons, aNil, poN, poS, Rs.d, Rs.sl, vB, List.cons_append, List.nil_append, List.append_nil, List.replicate_zero, List.replicate_succ, List.getElem?_cons_zero, List.getElem?_cons_succ, List.set_cons_zero, List.set_cons_succ, List.length_cons, List.length_nil, opLen, lenD, opList, opAdd, opSub, opMul, opMod, opDiv, opPow, opMin, opMax, opIx, opSl, cmpB, cEq, cNe, cIsN, cNotN, truD, tgN, tgT, setAll, isKd, opFind, opFind3, opStarts, opStarts3, Nat.reduceLT, Nat.reduceAdd, Nat.reduceSub, Nat.reduceLeDiff, Int.reduceLT, Int.reduceLE, Int.reduceNeg, reduceIte, and_self, true_and, and_true, decide_true, decide_false, Int.toNat_natCast, s1, s2, o2, fld_order]
theorem e_tell_pact {L a b : List Nat} (hL : goodL L) (hr : inW L a ∧ inW L b) {od : D} (ho : IsO L od) (ps : List (List Nat × List Nat)) (hps : ps.length ≤ 8) : g_Desk_told (dk od ps) [.str (ptx (a, b))] = if ps.length = 8 then some (.ex ⟨x_TooMany, none⟩ (dk od ps)) else some (.rt (.sh (.str ([112, 97, 99, 116, 32] ++ TL.numL ps.length))) (dk od (ps ++ [(a, b)]))) := by
  obtain ⟨t, ht⟩ : ∃ t, t = ptx (a, b) := ⟨_, rfl⟩
  rw [← ht]
  have o2 := e_prow hL hr ht ho ps hps
  have h1 : t.head? = some 112 := by rw [ht]; rfl
  have s1 : Txt.startswith (S t) (S [108, 101, 116, 116, 101, 114, 115, 32]) = false := st_no (by rw [h1]; decide) (by decide)
  have s2 : Txt.startswith (S t) (S [111, 114, 100, 101, 114, 32]) = false := st_no (by rw [h1]; decide) (by decide)
  have s3 : Txt.startswith (S t) (S [112, 97, 99, 116, 32]) = true := st_of ht
  obtain ⟨c, l, rfl, fl⟩ := letters_ob ho
  unfold g_Desk_told b_Desk_told i1_Desk_told i2_Desk_told i3_Desk_told i4_Desk_told
  by_cases h8 : ps.length = 8
  · rw [if_pos h8] at o2 ⊢
    unfold dk at o2 ⊢
    simp (disch := first | omega | assumption) only [if_pos, if_neg, decide_eq_true, decide_eq_false, atI_of, cutL_take, cutL_drop, cutL_mid, ge_iff_le, gt_iff_lt, Int.reduceToNat, Int.toNat_zero, Int.toNat_one, Bool.not_true, Bool.not_false, szl, sStuck, fLenS, cGtA, sAppQ, sSetQ, sForT, forTL, opSortT, fDItems, fDKeys, fLcO, D.key, fDNew, fDGet, sDPutV, fDSet, fRg3, fChV, fSortL, frL, frS, fSortB, sRem, sqAt, eIxI, fItm, fItV, chS, sItC, sItA, sItI, sItS, fTmp, Sl.mut, Sl.th, O.d, sqD, D.atm, sTryR, fSq, aConsF, aNilF, eO, sTgF, setFd, Fd.sl, opJoinRev, fLRev, runDef, runDefI, ioAt, insA, chL, getO, setO, getL, setL, obAt, eFd, eFV, eFB, fFld, fMeth, fMethI, fMake, fCallI, aHere, fIsO, sFldS, setF, Rs.fd, Fd.d, O.d, fMethD, chF, sAppF, fPopF, fPop0, fPop1, sIns, sRetI, sRetNI, fZip, fML, opAny, opAll, opSorted, opMaxL, opMinL, opRfind, opCount, List.map_cons, List.map_nil, cInA, cNinA, inD, itD, fItA, eItA, cLtA, cLeA, fRr1, fRr2, opInt, sPar, fCallD, fRaise0, fRaise1, sTryAs, sTry, aftr, noX, allEq_const, fXf, fXi, fLc, lcL, unE, tYs, Vs.ret, xLock, inis, bof, sNil, sSeq, sAsg, sRet, sRetV, sRetN, sIf, sDrop, sTg, sFor, sBrk, sCnt, sApp, sExt, sOwn, sSetI, opSetI, sLock, unlk, sbnd, bnd, fOp, fCh, fCl, fCall, fLst, fTup, fSl, fIf, fAnd, fOr, fNot, fTru, fAndV, fOrV, fNotV, fNeg, fIsi, fM1, fM2, fRg1, fRg2, fEn, fRev, fSg, fTp, fIt, eIt, eB, eV, eC, frz, shm, aCons, aNil, poN, poS, Rs.d, Rs.sl, vB, List.cons_append, List.nil_append, List.append_nil, List.replicate_zero, List.replicate_succ, List.getElem?_cons_zero, List.getElem?_cons_succ, List.set_cons_zero, List.set_cons_succ, List.length_cons, List.length_nil, opLen, lenD, opList, opAdd, opSub, opMul, opMod, opDiv, opPow, opMin, opMax, opIx, opSl, cmpB, cEq, cNe, cIsN, cNotN, truD, tgN, tgT, setAll, isKd, opFind, opFind3, opStarts, opStarts3, Nat.reduceLT, Nat.reduceAdd, Nat.reduceSub, Nat.reduceLeDiff, Int.reduceLT, Int.reduceLE, Int.reduceNeg, reduceIte, and_self, true_and, and_true, decide_true, decide_false, Int.toNat_natCast, s1, s2, s3, o2, fld_order]
  · rw [if_neg h8] at o2 ⊢
    unfold dk at o2 ⊢
    simp (disch := first | omega | assumption) only [if_pos, if_neg, decide_eq_true, decide_eq_false, atI_of, cutL_take, cutL_drop, cutL_mid, ge_iff_le, gt_iff_lt, Int.reduceToNat, Int.toNat_zero, Int.toNat_one, Bool.not_true, Bool.not_false, szl, sStuck, fLenS, cGtA, sAppQ, sSetQ, sForT, forTL, opSortT, fDItems, fDKeys, fLcO, D.key, fDNew, fDGet, sDPutV, fDSet, fRg3, fChV, fSortL, frL, frS, fSortB, sRem, sqAt, eIxI, fItm, fItV, chS, sItC, sItA, sItI, sItS, fTmp, Sl.mut, Sl.th, O.d, sqD, D.atm, sTryR, fSq, aConsF, aNilF, eO, sTgF, setFd, Fd.sl, opJoinRev, fLRev, runDef, runDefI, ioAt, insA, chL, getO, setO, getL, setL, obAt, eFd, eFV, eFB, fFld, fMeth, fMethI, fMake, fCallI, aHere, fIsO, sFldS, setF, Rs.fd, Fd.d, O.d, fMethD, chF, sAppF, fPopF, fPop0, fPop1, sIns, sRetI, sRetNI, fZip, fML, opAny, opAll, opSorted, opMaxL, opMinL, opRfind, opCount, List.map_cons, List.map_nil, cInA, cNinA, inD, itD, fItA, eItA, cLtA, cLeA, fRr1, fRr2, opInt, sPar, fCallD, fRaise0, fRaise1, sTryAs, sTry, aftr, noX, allEq_const, fXf, fXi, fLc, lcL, unE, tYs, Vs.ret, xLock, inis, bof, sNil, sSeq, sAsg, sRet, sRetV, sRetN, sIf, sDrop, sTg, sFor, sBrk, sCnt, sApp, sExt, sOwn, sSetI, opSetI, sLock, unlk, sbnd, bnd, fOp, fCh, fCl, fCall, fLst, fTup, fSl, fIf, fAnd, fOr, fNot, fTru, fAndV, fOrV, fNotV, fNeg, fIsi, fM1, fM2, fRg1, fRg2, fEn, fRev, fSg, fTp, fIt, eIt, eB, eV, eC, frz, shm, aCons, aNil, poN, poS, Rs.d, Rs.sl, vB, List.cons_append, List.nil_append, List.append_nil, List.replicate_zero, List.replicate_succ, List.getElem?_cons_zero, List.getElem?_cons_succ, List.set_cons_zero, List.set_cons_succ, List.length_cons, List.length_nil, opLen, lenD, opList, opAdd, opSub, opMul, opMod, opDiv, opPow, opMin, opMax, opIx, opSl, cmpB, cEq, cNe, cIsN, cNotN, truD, tgN, tgT, setAll, isKd, opFind, opFind3, opStarts, opStarts3, Nat.reduceLT, Nat.reduceAdd, Nat.reduceSub, Nat.reduceLeDiff, Int.reduceLT, Int.reduceLE, Int.reduceNeg, reduceIte, and_self, true_and, and_true, decide_true, decide_false, Int.toNat_natCast] at o2
    simp (disch := first | omega | assumption) only [if_pos, if_neg, decide_eq_true, decide_eq_false, atI_of, cutL_take, cutL_drop, cutL_mid, ge_iff_le, gt_iff_lt, Int.reduceToNat, Int.toNat_zero, Int.toNat_one, Bool.not_true, Bool.not_false, szl, sStuck, fLenS, cGtA, sAppQ, sSetQ, sForT, forTL, opSortT, fDItems, fDKeys, fLcO, D.key, fDNew, fDGet, sDPutV, fDSet, fRg3, fChV, fSortL, frL, frS, fSortB, sRem, sqAt, eIxI, fItm, fItV, chS, sItC, sItA, sItI, sItS, fTmp, Sl.mut, Sl.th, O.d, sqD, D.atm, sTryR, fSq, aConsF, aNilF, eO, sTgF, setFd, Fd.sl, opJoinRev, fLRev, runDef, runDefI, ioAt, insA, chL, getO, setO, getL, setL, obAt, eFd, eFV, eFB, fFld, fMeth, fMethI, fMake, fCallI, aHere, fIsO, sFldS, setF, Rs.fd, Fd.d, O.d, fMethD, chF, sAppF, fPopF, fPop0, fPop1, sIns, sRetI, sRetNI, fZip, fML, opAny, opAll, opSorted, opMaxL, opMinL, opRfind, opCount, List.map_cons, List.map_nil, cInA, cNinA, inD, itD, fItA, eItA, cLtA, cLeA, fRr1, fRr2, opInt, sPar, fCallD, fRaise0, fRaise1, sTryAs, sTry, aftr, noX, allEq_const, fXf, fXi, fLc, lcL, unE, tYs, Vs.ret, xLock, inis, bof, sNil, sSeq, sAsg, sRet, sRetV, sRetN, sIf, sDrop, sTg, sFor, sBrk, sCnt, sApp, sExt, sOwn, sSetI, opSetI, sLock, unlk, sbnd, bnd, fOp, fCh, fCl, fCall, fLst, fTup, fSl, fIf, fAnd, fOr, fNot, fTru, fAndV, fOrV, fNotV, fNeg, fIsi, fM1, fM2, fRg1, fRg2, fEn, fRev, fSg, fTp, fIt, eIt, eB, eV, eC, frz, shm, aCons, aNil, poN, poS, Rs.d, Rs.sl, vB, List.cons_append, List.nil_append, List.append_nil, List.replicate_zero, List.replicate_succ, List.getElem?_cons_zero, List.getElem?_cons_succ, List.set_cons_zero, List.set_cons_succ, List.length_cons, List.length_nil, opLen, lenD, opList, opAdd, opSub, opMul, opMod, opDiv, opPow, opMin, opMax, opIx, opSl, cmpB, cEq, cNe, cIsN, cNotN, truD, tgN, tgT, setAll, isKd, opFind, opFind3, opStarts, opStarts3, Nat.reduceLT, Nat.reduceAdd, Nat.reduceSub, Nat.reduceLeDiff, Int.reduceLT, Int.reduceLE, Int.reduceNeg, reduceIte, and_self, true_and, and_true, decide_true, decide_false, Int.toNat_natCast, s1, s2, s3, o2, fld_order]
theorem drop_st : Txt.startswith (S [100, 114, 111, 112]) (S [108, 101, 116, 116, 101, 114, 115, 32]) = false ∧ Txt.startswith (S [100, 114, 111, 112]) (S [111, 114, 100, 101, 114, 32]) = false ∧ Txt.startswith (S [100, 114, 111, 112]) (S [112, 97, 99, 116, 32]) = false := ⟨st_no (by decide) (by decide), st_no (by decide) (by decide), st_no (by decide) (by decide)⟩
theorem e_tell_drop0 {L : List Nat} {od : D} (ho : IsO L od) : g_Desk_told (dk od []) [.str [100, 114, 111, 112]] = some (.ex ⟨x_NoRow, none⟩ (dk od [])) := by
  have o2 := e_drow0 od
  obtain ⟨s1, s2, s3⟩ := drop_st
  obtain ⟨c, l, rfl, fl⟩ := letters_ob ho
  unfold g_Desk_told b_Desk_told i1_Desk_told i2_Desk_told i3_Desk_told i4_Desk_told i5_Desk_told
  unfold dk at o2 ⊢
  simp (disch := first | omega | assumption) only [if_pos, if_neg, decide_eq_true, decide_eq_false, atI_of, cutL_take, cutL_drop, cutL_mid, ge_iff_le, gt_iff_lt, Int.reduceToNat, Int.toNat_zero, Int.toNat_one, Bool.not_true, Bool.not_false, szl, sStuck, fLenS, cGtA, sAppQ, sSetQ, sForT, forTL, opSortT, fDItems, fDKeys, fLcO, D.key, fDNew, fDGet, sDPutV, fDSet, fRg3, fChV, fSortL, frL, frS, fSortB, sRem, sqAt, eIxI, fItm, fItV, chS, sItC, sItA, sItI, sItS, fTmp, Sl.mut, Sl.th, O.d, sqD, D.atm, sTryR, fSq, aConsF, aNilF, eO, sTgF, setFd, Fd.sl, opJoinRev, fLRev, runDef, runDefI, ioAt, insA, chL, getO, setO, getL, setL, obAt, eFd, eFV, eFB, fFld, fMeth, fMethI, fMake, fCallI, aHere, fIsO, sFldS, setF, Rs.fd, Fd.d, O.d, fMethD, chF, sAppF, fPopF, fPop0, fPop1, sIns, sRetI, sRetNI, fZip, fML, opAny, opAll, opSorted, opMaxL, opMinL, opRfind, opCount, List.map_cons, List.map_nil, cInA, cNinA, inD, itD, fItA, eItA, cLtA, cLeA, fRr1, fRr2, opInt, sPar, fCallD, fRaise0, fRaise1, sTryAs, sTry, aftr, noX, allEq_const, fXf, fXi, fLc, lcL, unE, tYs, Vs.ret, xLock, inis, bof, sNil, sSeq, sAsg, sRet, sRetV, sRetN, sIf, sDrop, sTg, sFor, sBrk, sCnt, sApp, sExt, sOwn, sSetI, opSetI, sLock, unlk, sbnd, bnd, fOp, fCh, fCl, fCall, fLst, fTup, fSl, fIf, fAnd, fOr, fNot, fTru, fAndV, fOrV, fNotV, fNeg, fIsi, fM1, fM2, fRg1, fRg2, fEn, fRev, fSg, fTp, fIt, eIt, eB, eV, eC, frz, shm, aCons, aNil, poN, poS, Rs.d, Rs.sl, vB, List.cons_append, List.nil_append, List.append_nil, List.replicate_zero, List.replicate_succ, List.getElem?_cons_zero, List.getElem?_cons_succ, List.set_cons_zero, List.set_cons_succ, List.length_cons, List.length_nil, opLen, lenD, opList, opAdd, opSub, opMul, opMod, opDiv, opPow, opMin, opMax, opIx, opSl, cmpB, cEq, cNe, cIsN, cNotN, truD, tgN, tgT, setAll, isKd, opFind, opFind3, opStarts, opStarts3, Nat.reduceLT, Nat.reduceAdd, Nat.reduceSub, Nat.reduceLeDiff, Int.reduceLT, Int.reduceLE, Int.reduceNeg, reduceIte, and_self, true_and, and_true, decide_true, decide_false, Int.toNat_natCast] at o2
  simp (disch := first | omega | assumption) only [if_pos, if_neg, decide_eq_true, decide_eq_false, atI_of, cutL_take, cutL_drop, cutL_mid, ge_iff_le, gt_iff_lt, Int.reduceToNat, Int.toNat_zero, Int.toNat_one, Bool.not_true, Bool.not_false, szl, sStuck, fLenS, cGtA, sAppQ, sSetQ, sForT, forTL, opSortT, fDItems, fDKeys, fLcO, D.key, fDNew, fDGet, sDPutV, fDSet, fRg3, fChV, fSortL, frL, frS, fSortB, sRem, sqAt, eIxI, fItm, fItV, chS, sItC, sItA, sItI, sItS, fTmp, Sl.mut, Sl.th, O.d, sqD, D.atm, sTryR, fSq, aConsF, aNilF, eO, sTgF, setFd, Fd.sl, opJoinRev, fLRev, runDef, runDefI, ioAt, insA, chL, getO, setO, getL, setL, obAt, eFd, eFV, eFB, fFld, fMeth, fMethI, fMake, fCallI, aHere, fIsO, sFldS, setF, Rs.fd, Fd.d, O.d, fMethD, chF, sAppF, fPopF, fPop0, fPop1, sIns, sRetI, sRetNI, fZip, fML, opAny, opAll, opSorted, opMaxL, opMinL, opRfind, opCount, List.map_cons, List.map_nil, cInA, cNinA, inD, itD, fItA, eItA, cLtA, cLeA, fRr1, fRr2, opInt, sPar, fCallD, fRaise0, fRaise1, sTryAs, sTry, aftr, noX, allEq_const, fXf, fXi, fLc, lcL, unE, tYs, Vs.ret, xLock, inis, bof, sNil, sSeq, sAsg, sRet, sRetV, sRetN, sIf, sDrop, sTg, sFor, sBrk, sCnt, sApp, sExt, sOwn, sSetI, opSetI, sLock, unlk, sbnd, bnd, fOp, fCh, fCl, fCall, fLst, fTup, fSl, fIf, fAnd, fOr, fNot, fTru, fAndV, fOrV, fNotV, fNeg, fIsi, fM1, fM2, fRg1, fRg2, fEn, fRev, fSg, fTp, fIt, eIt, eB, eV, eC, frz, shm, aCons, aNil, poN, poS, Rs.d, Rs.sl, vB, List.cons_append, List.nil_append, List.append_nil, List.replicate_zero, List.replicate_succ, List.getElem?_cons_zero, List.getElem?_cons_succ, List.set_cons_zero, List.set_cons_succ, List.length_cons, List.length_nil, opLen, lenD, opList, opAdd, opSub, opMul, opMod, opDiv, opPow, opMin, opMax, opIx, opSl, cmpB, cEq, cNe, cIsN, cNotN, truD, tgN, tgT, setAll, isKd, opFind, opFind3, opStarts, opStarts3, Nat.reduceLT, Nat.reduceAdd, Nat.reduceSub, Nat.reduceLeDiff, Int.reduceLT, Int.reduceLE, Int.reduceNeg, reduceIte, and_self, true_and, and_true, decide_true, decide_false, Int.toNat_natCast, s1, s2, s3, o2, fld_order]
theorem e_tell_drop {L : List Nat} {od : D} (ho : IsO L od) (ps : List (List Nat × List Nat)) (p : List Nat × List Nat) (h1 : p.1.length ≤ 60) (h2 : p.2.length ≤ 60) : g_Desk_told (dk od (ps ++ [p])) [.str [100, 114, 111, 112]] = some (.rt (.sh (.str (ptx p))) (dk od ps)) := by
  have o2 := e_drow od ps p h1 h2
  obtain ⟨s1, s2, s3⟩ := drop_st
  obtain ⟨c, l, rfl, fl⟩ := letters_ob ho
  obtain ⟨M, hM⟩ : ∃ M, M = (ps ++ [p]).map pD := ⟨_, rfl⟩
  unfold g_Desk_told b_Desk_told i1_Desk_told i2_Desk_told i3_Desk_told i4_Desk_told i5_Desk_told
  unfold dk at o2 ⊢
  rw [← hM] at o2 ⊢
  simp (disch := first | omega | assumption) only [if_pos, if_neg, decide_eq_true, decide_eq_false, atI_of, cutL_take, cutL_drop, cutL_mid, ge_iff_le, gt_iff_lt, Int.reduceToNat, Int.toNat_zero, Int.toNat_one, Bool.not_true, Bool.not_false, szl, sStuck, fLenS, cGtA, sAppQ, sSetQ, sForT, forTL, opSortT, fDItems, fDKeys, fLcO, D.key, fDNew, fDGet, sDPutV, fDSet, fRg3, fChV, fSortL, frL, frS, fSortB, sRem, sqAt, eIxI, fItm, fItV, chS, sItC, sItA, sItI, sItS, fTmp, Sl.mut, Sl.th, O.d, sqD, D.atm, sTryR, fSq, aConsF, aNilF, eO, sTgF, setFd, Fd.sl, opJoinRev, fLRev, runDef, runDefI, ioAt, insA, chL, getO, setO, getL, setL, obAt, eFd, eFV, eFB, fFld, fMeth, fMethI, fMake, fCallI, aHere, fIsO, sFldS, setF, Rs.fd, Fd.d, O.d, fMethD, chF, sAppF, fPopF, fPop0, fPop1, sIns, sRetI, sRetNI, fZip, fML, opAny, opAll, opSorted, opMaxL, opMinL, opRfind, opCount, List.map_cons, List.map_nil, cInA, cNinA, inD, itD, fItA, eItA, cLtA, cLeA, fRr1, fRr2, opInt, sPar, fCallD, fRaise0, fRaise1, sTryAs, sTry, aftr, noX, allEq_const, fXf, fXi, fLc, lcL, unE, tYs, Vs.ret, xLock, inis, bof, sNil, sSeq, sAsg, sRet, sRetV, sRetN, sIf, sDrop, sTg, sFor, sBrk, sCnt, sApp, sExt, sOwn, sSetI, opSetI, sLock, unlk, sbnd, bnd, fOp, fCh, fCl, fCall, fLst, fTup, fSl, fIf, fAnd, fOr, fNot, fTru, fAndV, fOrV, fNotV, fNeg, fIsi, fM1, fM2, fRg1, fRg2, fEn, fRev, fSg, fTp, fIt, eIt, eB, eV, eC, frz, shm, aCons, aNil, poN, poS, Rs.d, Rs.sl, vB, List.cons_append, List.nil_append, List.append_nil, List.replicate_zero, List.replicate_succ, List.getElem?_cons_zero, List.getElem?_cons_succ, List.set_cons_zero, List.set_cons_succ, List.length_cons, List.length_nil, opLen, lenD, opList, opAdd, opSub, opMul, opMod, opDiv, opPow, opMin, opMax, opIx, opSl, cmpB, cEq, cNe, cIsN, cNotN, truD, tgN, tgT, setAll, isKd, opFind, opFind3, opStarts, opStarts3, Nat.reduceLT, Nat.reduceAdd, Nat.reduceSub, Nat.reduceLeDiff, Int.reduceLT, Int.reduceLE, Int.reduceNeg, reduceIte, and_self, true_and, and_true, decide_true, decide_false, Int.toNat_natCast, s1, s2, s3, o2, fld_order]
/-! the law's told -/
theorem lt_rt {c : List Fd} {t : List Nat} {d : D} {o : O} (h : g_Desk_told (.ob 4 c) [.str t] = some (.rt (.sh d) o)) : g_law_told (.ob 4 c) [.str t] = some (.rt (.sh d) o) := by
  unfold g_law_told b_law_told y1_law_told
  simp (disch := first | omega | assumption) only [if_pos, if_neg, decide_eq_true, decide_eq_false, atI_of, cutL_take, cutL_drop, cutL_mid, ge_iff_le, gt_iff_lt, Int.reduceToNat, Int.toNat_zero, Int.toNat_one, Bool.not_true, Bool.not_false, szl, sStuck, fLenS, cGtA, sAppQ, sSetQ, sForT, forTL, opSortT, fDItems, fDKeys, fLcO, D.key, fDNew, fDGet, sDPutV, fDSet, fRg3, fChV, fSortL, frL, frS, fSortB, sRem, sqAt, eIxI, fItm, fItV, chS, sItC, sItA, sItI, sItS, fTmp, Sl.mut, Sl.th, O.d, sqD, D.atm, sTryR, fSq, aConsF, aNilF, eO, sTgF, setFd, Fd.sl, opJoinRev, fLRev, runDef, runDefI, ioAt, insA, chL, getO, setO, getL, setL, obAt, eFd, eFV, eFB, fFld, fMeth, fMethI, fMake, fCallI, aHere, fIsO, sFldS, setF, Rs.fd, Fd.d, O.d, fMethD, chF, sAppF, fPopF, fPop0, fPop1, sIns, sRetI, sRetNI, fZip, fML, opAny, opAll, opSorted, opMaxL, opMinL, opRfind, opCount, List.map_cons, List.map_nil, cInA, cNinA, inD, itD, fItA, eItA, cLtA, cLeA, fRr1, fRr2, opInt, sPar, fCallD, fRaise0, fRaise1, sTryAs, sTry, aftr, noX, allEq_const, fXf, fXi, fLc, lcL, unE, tYs, Vs.ret, xLock, inis, bof, sNil, sSeq, sAsg, sRet, sRetV, sRetN, sIf, sDrop, sTg, sFor, sBrk, sCnt, sApp, sExt, sOwn, sSetI, opSetI, sLock, unlk, sbnd, bnd, fOp, fCh, fCl, fCall, fLst, fTup, fSl, fIf, fAnd, fOr, fNot, fTru, fAndV, fOrV, fNotV, fNeg, fIsi, fM1, fM2, fRg1, fRg2, fEn, fRev, fSg, fTp, fIt, eIt, eB, eV, eC, frz, shm, aCons, aNil, poN, poS, Rs.d, Rs.sl, vB, List.cons_append, List.nil_append, List.append_nil, List.replicate_zero, List.replicate_succ, List.getElem?_cons_zero, List.getElem?_cons_succ, List.set_cons_zero, List.set_cons_succ, List.length_cons, List.length_nil, opLen, lenD, opList, opAdd, opSub, opMul, opMod, opDiv, opPow, opMin, opMax, opIx, opSl, cmpB, cEq, cNe, cIsN, cNotN, truD, tgN, tgT, setAll, isKd, opFind, opFind3, opStarts, opStarts3, Nat.reduceLT, Nat.reduceAdd, Nat.reduceSub, Nat.reduceLeDiff, Int.reduceLT, Int.reduceLE, Int.reduceNeg, reduceIte, and_self, true_and, and_true, decide_true, decide_false, Int.toNat_natCast, h]
theorem lt_ex {c : List Fd} {t : List Nat} {x : Nat} {o : O} (h : g_Desk_told (.ob 4 c) [.str t] = some (.ex ⟨x, none⟩ o)) (hx : x = 8 ∨ x = 9) : g_law_told (.ob 4 c) [.str t] = some (.rt (.sh (.tup [.bl (decide (x = 9)), .bl (decide (x = 8))])) o) := by
  unfold g_law_told b_law_told y1_law_told z1_law_told
  rcases hx with rfl | rfl
  · have x1 : xs 8 0 = some true := rfl
    have k1 : ks 8 9 = some false := rfl
    have k2 : ks 8 8 = some true := rfl
    have k3 : ks 8 2202 = some false := rfl
    simp (disch := first | omega | assumption) only [if_pos, if_neg, decide_eq_true, decide_eq_false, atI_of, cutL_take, cutL_drop, cutL_mid, ge_iff_le, gt_iff_lt, Int.reduceToNat, Int.toNat_zero, Int.toNat_one, Bool.not_true, Bool.not_false, szl, sStuck, fLenS, cGtA, sAppQ, sSetQ, sForT, forTL, opSortT, fDItems, fDKeys, fLcO, D.key, fDNew, fDGet, sDPutV, fDSet, fRg3, fChV, fSortL, frL, frS, fSortB, sRem, sqAt, eIxI, fItm, fItV, chS, sItC, sItA, sItI, sItS, fTmp, Sl.mut, Sl.th, O.d, sqD, D.atm, sTryR, fSq, aConsF, aNilF, eO, sTgF, setFd, Fd.sl, opJoinRev, fLRev, runDef, runDefI, ioAt, insA, chL, getO, setO, getL, setL, obAt, eFd, eFV, eFB, fFld, fMeth, fMethI, fMake, fCallI, aHere, fIsO, sFldS, setF, Rs.fd, Fd.d, O.d, fMethD, chF, sAppF, fPopF, fPop0, fPop1, sIns, sRetI, sRetNI, fZip, fML, opAny, opAll, opSorted, opMaxL, opMinL, opRfind, opCount, List.map_cons, List.map_nil, cInA, cNinA, inD, itD, fItA, eItA, cLtA, cLeA, fRr1, fRr2, opInt, sPar, fCallD, fRaise0, fRaise1, sTryAs, sTry, aftr, noX, allEq_const, fXf, fXi, fLc, lcL, unE, tYs, Vs.ret, xLock, inis, bof, sNil, sSeq, sAsg, sRet, sRetV, sRetN, sIf, sDrop, sTg, sFor, sBrk, sCnt, sApp, sExt, sOwn, sSetI, opSetI, sLock, unlk, sbnd, bnd, fOp, fCh, fCl, fCall, fLst, fTup, fSl, fIf, fAnd, fOr, fNot, fTru, fAndV, fOrV, fNotV, fNeg, fIsi, fM1, fM2, fRg1, fRg2, fEn, fRev, fSg, fTp, fIt, eIt, eB, eV, eC, frz, shm, aCons, aNil, poN, poS, Rs.d, Rs.sl, vB, List.cons_append, List.nil_append, List.append_nil, List.replicate_zero, List.replicate_succ, List.getElem?_cons_zero, List.getElem?_cons_succ, List.set_cons_zero, List.set_cons_succ, List.length_cons, List.length_nil, opLen, lenD, opList, opAdd, opSub, opMul, opMod, opDiv, opPow, opMin, opMax, opIx, opSl, cmpB, cEq, cNe, cIsN, cNotN, truD, tgN, tgT, setAll, isKd, opFind, opFind3, opStarts, opStarts3, Nat.reduceLT, Nat.reduceAdd, Nat.reduceSub, Nat.reduceLeDiff, Int.reduceLT, Int.reduceLE, Int.reduceNeg, reduceIte, and_self, true_and, and_true, decide_true, decide_false, Int.toNat_natCast, h, x1, k1, k2, k3, Bool.not_false]
  · have x1 : xs 9 0 = some true := rfl
    have k1 : ks 9 9 = some true := rfl
    have k2 : ks 9 8 = some false := rfl
    have k3 : ks 9 2202 = some false := rfl
    simp (disch := first | omega | assumption) only [if_pos, if_neg, decide_eq_true, decide_eq_false, atI_of, cutL_take, cutL_drop, cutL_mid, ge_iff_le, gt_iff_lt, Int.reduceToNat, Int.toNat_zero, Int.toNat_one, Bool.not_true, Bool.not_false, szl, sStuck, fLenS, cGtA, sAppQ, sSetQ, sForT, forTL, opSortT, fDItems, fDKeys, fLcO, D.key, fDNew, fDGet, sDPutV, fDSet, fRg3, fChV, fSortL, frL, frS, fSortB, sRem, sqAt, eIxI, fItm, fItV, chS, sItC, sItA, sItI, sItS, fTmp, Sl.mut, Sl.th, O.d, sqD, D.atm, sTryR, fSq, aConsF, aNilF, eO, sTgF, setFd, Fd.sl, opJoinRev, fLRev, runDef, runDefI, ioAt, insA, chL, getO, setO, getL, setL, obAt, eFd, eFV, eFB, fFld, fMeth, fMethI, fMake, fCallI, aHere, fIsO, sFldS, setF, Rs.fd, Fd.d, O.d, fMethD, chF, sAppF, fPopF, fPop0, fPop1, sIns, sRetI, sRetNI, fZip, fML, opAny, opAll, opSorted, opMaxL, opMinL, opRfind, opCount, List.map_cons, List.map_nil, cInA, cNinA, inD, itD, fItA, eItA, cLtA, cLeA, fRr1, fRr2, opInt, sPar, fCallD, fRaise0, fRaise1, sTryAs, sTry, aftr, noX, allEq_const, fXf, fXi, fLc, lcL, unE, tYs, Vs.ret, xLock, inis, bof, sNil, sSeq, sAsg, sRet, sRetV, sRetN, sIf, sDrop, sTg, sFor, sBrk, sCnt, sApp, sExt, sOwn, sSetI, opSetI, sLock, unlk, sbnd, bnd, fOp, fCh, fCl, fCall, fLst, fTup, fSl, fIf, fAnd, fOr, fNot, fTru, fAndV, fOrV, fNotV, fNeg, fIsi, fM1, fM2, fRg1, fRg2, fEn, fRev, fSg, fTp, fIt, eIt, eB, eV, eC, frz, shm, aCons, aNil, poN, poS, Rs.d, Rs.sl, vB, List.cons_append, List.nil_append, List.append_nil, List.replicate_zero, List.replicate_succ, List.getElem?_cons_zero, List.getElem?_cons_succ, List.set_cons_zero, List.set_cons_succ, List.length_cons, List.length_nil, opLen, lenD, opList, opAdd, opSub, opMul, opMod, opDiv, opPow, opMin, opMax, opIx, opSl, cmpB, cEq, cNe, cIsN, cNotN, truD, tgN, tgT, setAll, isKd, opFind, opFind3, opStarts, opStarts3, Nat.reduceLT, Nat.reduceAdd, Nat.reduceSub, Nat.reduceLeDiff, Int.reduceLT, Int.reduceLE, Int.reduceNeg, reduceIte, and_self, true_and, and_true, decide_true, decide_false, Int.toNat_natCast, h, x1, k1, k2, k3, Bool.not_false]
/-! due -/
def rowsD (ps : List (List Nat × List Nat)) : List D := ps.map fun p => .str (ptx p)
theorem due_drop0 : g_law_due [.str [100, 114, 111, 112], .lst []] = some (.rt (.sh (.tup [.bl true, .bl false]))) := by
  unfold g_law_due b_law_due i2_law_due i1_law_due
  simp (disch := first | omega | assumption) only [if_pos, if_neg, decide_eq_true, decide_eq_false, atI_of, cutL_take, cutL_drop, cutL_mid, ge_iff_le, gt_iff_lt, Int.reduceToNat, Int.toNat_zero, Int.toNat_one, Bool.not_true, Bool.not_false, szl, sStuck, fLenS, cGtA, sAppQ, sSetQ, sForT, forTL, opSortT, fDItems, fDKeys, fLcO, D.key, fDNew, fDGet, sDPutV, fDSet, fRg3, fChV, fSortL, frL, frS, fSortB, sRem, sqAt, eIxI, fItm, fItV, chS, sItC, sItA, sItI, sItS, fTmp, Sl.mut, Sl.th, O.d, sqD, D.atm, sTryR, fSq, aConsF, aNilF, eO, sTgF, setFd, Fd.sl, opJoinRev, fLRev, runDef, runDefI, ioAt, insA, chL, getO, setO, getL, setL, obAt, eFd, eFV, eFB, fFld, fMeth, fMethI, fMake, fCallI, aHere, fIsO, sFldS, setF, Rs.fd, Fd.d, O.d, fMethD, chF, sAppF, fPopF, fPop0, fPop1, sIns, sRetI, sRetNI, fZip, fML, opAny, opAll, opSorted, opMaxL, opMinL, opRfind, opCount, List.map_cons, List.map_nil, cInA, cNinA, inD, itD, fItA, eItA, cLtA, cLeA, fRr1, fRr2, opInt, sPar, fCallD, fRaise0, fRaise1, sTryAs, sTry, aftr, noX, allEq_const, fXf, fXi, fLc, lcL, unE, tYs, Vs.ret, xLock, inis, bof, sNil, sSeq, sAsg, sRet, sRetV, sRetN, sIf, sDrop, sTg, sFor, sBrk, sCnt, sApp, sExt, sOwn, sSetI, opSetI, sLock, unlk, sbnd, bnd, fOp, fCh, fCl, fCall, fLst, fTup, fSl, fIf, fAnd, fOr, fNot, fTru, fAndV, fOrV, fNotV, fNeg, fIsi, fM1, fM2, fRg1, fRg2, fEn, fRev, fSg, fTp, fIt, eIt, eB, eV, eC, frz, shm, aCons, aNil, poN, poS, Rs.d, Rs.sl, vB, List.cons_append, List.nil_append, List.append_nil, List.replicate_zero, List.replicate_succ, List.getElem?_cons_zero, List.getElem?_cons_succ, List.set_cons_zero, List.set_cons_succ, List.length_cons, List.length_nil, opLen, lenD, opList, opAdd, opSub, opMul, opMod, opDiv, opPow, opMin, opMax, opIx, opSl, cmpB, cEq, cNe, cIsN, cNotN, truD, tgN, tgT, setAll, isKd, opFind, opFind3, opStarts, opStarts3, Nat.reduceLT, Nat.reduceAdd, Nat.reduceSub, Nat.reduceLeDiff, Int.reduceLT, Int.reduceLE, Int.reduceNeg, reduceIte, and_self, true_and, and_true, decide_true, decide_false, Int.toNat_natCast, show ((0 : Nat) : Int) = 0 from rfl]
theorem due_drop (ps : List (List Nat × List Nat)) (p : List Nat × List Nat) (h : ps.length ≤ 100) : g_law_due [.str [100, 114, 111, 112], .lst (rowsD (ps ++ [p]))] = some (.rt (.sh (.str (ptx p)))) := by
  obtain ⟨M, hM⟩ : ∃ M, M = rowsD (ps ++ [p]) := ⟨_, rfl⟩
  have hl : M.length = ps.length + 1 := by rw [hM]; unfold rowsD; rw [List.length_map, List.length_append]; rfl
  have h0 : ¬ (M.length : Int) = 0 := by omega
  have hat : atI M (-1) = some (.str (ptx p)) := by
    rw [hM]
    unfold rowsD
    rw [List.map_append]
    unfold atI
    have e : ixN (List.map (fun p => D.str (ptx p)) ps ++ List.map (fun p => D.str (ptx p)) [p]).length (-1) = some ps.length := by
      rw [List.length_append, List.length_map]
      unfold ixN
      have e1 : ((ps.length + [p].length : Nat) : Int) = (ps.length : Int) + 1 := by simp
      rw [List.length_map, e1, if_neg (by decide), if_pos (by omega)]
      exact congrArg some (by omega)
    rw [e]
    simp
  rw [← hM]
  unfold g_law_due b_law_due i2_law_due i1_law_due
  simp (disch := first | omega | assumption) only [if_pos, if_neg, decide_eq_true, decide_eq_false, atI_of, cutL_take, cutL_drop, cutL_mid, ge_iff_le, gt_iff_lt, Int.reduceToNat, Int.toNat_zero, Int.toNat_one, Bool.not_true, Bool.not_false, szl, sStuck, fLenS, cGtA, sAppQ, sSetQ, sForT, forTL, opSortT, fDItems, fDKeys, fLcO, D.key, fDNew, fDGet, sDPutV, fDSet, fRg3, fChV, fSortL, frL, frS, fSortB, sRem, sqAt, eIxI, fItm, fItV, chS, sItC, sItA, sItI, sItS, fTmp, Sl.mut, Sl.th, O.d, sqD, D.atm, sTryR, fSq, aConsF, aNilF, eO, sTgF, setFd, Fd.sl, opJoinRev, fLRev, runDef, runDefI, ioAt, insA, chL, getO, setO, getL, setL, obAt, eFd, eFV, eFB, fFld, fMeth, fMethI, fMake, fCallI, aHere, fIsO, sFldS, setF, Rs.fd, Fd.d, O.d, fMethD, chF, sAppF, fPopF, fPop0, fPop1, sIns, sRetI, sRetNI, fZip, fML, opAny, opAll, opSorted, opMaxL, opMinL, opRfind, opCount, List.map_cons, List.map_nil, cInA, cNinA, inD, itD, fItA, eItA, cLtA, cLeA, fRr1, fRr2, opInt, sPar, fCallD, fRaise0, fRaise1, sTryAs, sTry, aftr, noX, allEq_const, fXf, fXi, fLc, lcL, unE, tYs, Vs.ret, xLock, inis, bof, sNil, sSeq, sAsg, sRet, sRetV, sRetN, sIf, sDrop, sTg, sFor, sBrk, sCnt, sApp, sExt, sOwn, sSetI, opSetI, sLock, unlk, sbnd, bnd, fOp, fCh, fCl, fCall, fLst, fTup, fSl, fIf, fAnd, fOr, fNot, fTru, fAndV, fOrV, fNotV, fNeg, fIsi, fM1, fM2, fRg1, fRg2, fEn, fRev, fSg, fTp, fIt, eIt, eB, eV, eC, frz, shm, aCons, aNil, poN, poS, Rs.d, Rs.sl, vB, List.cons_append, List.nil_append, List.append_nil, List.replicate_zero, List.replicate_succ, List.getElem?_cons_zero, List.getElem?_cons_succ, List.set_cons_zero, List.set_cons_succ, List.length_cons, List.length_nil, opLen, lenD, opList, opAdd, opSub, opMul, opMod, opDiv, opPow, opMin, opMax, opIx, opSl, cmpB, cEq, cNe, cIsN, cNotN, truD, tgN, tgT, setAll, isKd, opFind, opFind3, opStarts, opStarts3, Nat.reduceLT, Nat.reduceAdd, Nat.reduceSub, Nat.reduceLeDiff, Int.reduceLT, Int.reduceLE, Int.reduceNeg, reduceIte, and_self, true_and, and_true, decide_true, decide_false, Int.toNat_natCast, decide_eq_false h0, hat]
theorem due_pact {a b : List Nat} (ps : List (List Nat × List Nat)) (h : ps.length ≤ 8) : g_law_due [.str (ptx (a, b)), .lst (rowsD ps)] = some (.rt (.sh (if ps.length = 8 then .tup [.bl false, .bl true] else .str ([112, 97, 99, 116, 32] ++ TL.numL ps.length)))) := by
  obtain ⟨t, ht⟩ : ∃ t, t = ptx (a, b) := ⟨_, rfl⟩
  rw [← ht]
  have h1 : t.head? = some 112 := by rw [ht]; rfl
  have n1 : ¬ t = [100, 114, 111, 112] := fun e => by rw [e] at h1; simp at h1
  have s3 : Txt.startswith (S t) (S [112, 97, 99, 116, 32]) = true := st_of ht
  obtain ⟨M, hM⟩ : ∃ M, M = rowsD ps := ⟨_, rfl⟩
  have hl : M.length = ps.length := by rw [hM]; unfold rowsD; rw [List.length_map]
  have hs := num_str (n := ps.length) (by omega)
  have nl := num_len (n := ps.length) (by omega)
  rw [← hM]
  unfold g_law_due b_law_due i2_law_due i4_law_due i3_law_due
  by_cases h8 : ps.length = 8
  · have h8' : (M.length : Int) = 8 := by omega
    rw [if_pos h8]
    simp (disch := first | omega | assumption) only [if_pos, if_neg, decide_eq_true, decide_eq_false, atI_of, cutL_take, cutL_drop, cutL_mid, ge_iff_le, gt_iff_lt, Int.reduceToNat, Int.toNat_zero, Int.toNat_one, Bool.not_true, Bool.not_false, szl, sStuck, fLenS, cGtA, sAppQ, sSetQ, sForT, forTL, opSortT, fDItems, fDKeys, fLcO, D.key, fDNew, fDGet, sDPutV, fDSet, fRg3, fChV, fSortL, frL, frS, fSortB, sRem, sqAt, eIxI, fItm, fItV, chS, sItC, sItA, sItI, sItS, fTmp, Sl.mut, Sl.th, O.d, sqD, D.atm, sTryR, fSq, aConsF, aNilF, eO, sTgF, setFd, Fd.sl, opJoinRev, fLRev, runDef, runDefI, ioAt, insA, chL, getO, setO, getL, setL, obAt, eFd, eFV, eFB, fFld, fMeth, fMethI, fMake, fCallI, aHere, fIsO, sFldS, setF, Rs.fd, Fd.d, O.d, fMethD, chF, sAppF, fPopF, fPop0, fPop1, sIns, sRetI, sRetNI, fZip, fML, opAny, opAll, opSorted, opMaxL, opMinL, opRfind, opCount, List.map_cons, List.map_nil, cInA, cNinA, inD, itD, fItA, eItA, cLtA, cLeA, fRr1, fRr2, opInt, sPar, fCallD, fRaise0, fRaise1, sTryAs, sTry, aftr, noX, allEq_const, fXf, fXi, fLc, lcL, unE, tYs, Vs.ret, xLock, inis, bof, sNil, sSeq, sAsg, sRet, sRetV, sRetN, sIf, sDrop, sTg, sFor, sBrk, sCnt, sApp, sExt, sOwn, sSetI, opSetI, sLock, unlk, sbnd, bnd, fOp, fCh, fCl, fCall, fLst, fTup, fSl, fIf, fAnd, fOr, fNot, fTru, fAndV, fOrV, fNotV, fNeg, fIsi, fM1, fM2, fRg1, fRg2, fEn, fRev, fSg, fTp, fIt, eIt, eB, eV, eC, frz, shm, aCons, aNil, poN, poS, Rs.d, Rs.sl, vB, List.cons_append, List.nil_append, List.append_nil, List.replicate_zero, List.replicate_succ, List.getElem?_cons_zero, List.getElem?_cons_succ, List.set_cons_zero, List.set_cons_succ, List.length_cons, List.length_nil, opLen, lenD, opList, opAdd, opSub, opMul, opMod, opDiv, opPow, opMin, opMax, opIx, opSl, cmpB, cEq, cNe, cIsN, cNotN, truD, tgN, tgT, setAll, isKd, opFind, opFind3, opStarts, opStarts3, Nat.reduceLT, Nat.reduceAdd, Nat.reduceSub, Nat.reduceLeDiff, Int.reduceLT, Int.reduceLE, Int.reduceNeg, reduceIte, and_self, true_and, and_true, decide_true, decide_false, Int.toNat_natCast, decide_eq_false n1, s3, decide_eq_true h8']
  · have h8' : ¬ (M.length : Int) = 8 := by omega
    rw [if_neg h8]
    simp (disch := first | omega | assumption) only [if_pos, if_neg, decide_eq_true, decide_eq_false, atI_of, cutL_take, cutL_drop, cutL_mid, ge_iff_le, gt_iff_lt, Int.reduceToNat, Int.toNat_zero, Int.toNat_one, Bool.not_true, Bool.not_false, szl, sStuck, fLenS, cGtA, sAppQ, sSetQ, sForT, forTL, opSortT, fDItems, fDKeys, fLcO, D.key, fDNew, fDGet, sDPutV, fDSet, fRg3, fChV, fSortL, frL, frS, fSortB, sRem, sqAt, eIxI, fItm, fItV, chS, sItC, sItA, sItI, sItS, fTmp, Sl.mut, Sl.th, O.d, sqD, D.atm, sTryR, fSq, aConsF, aNilF, eO, sTgF, setFd, Fd.sl, opJoinRev, fLRev, runDef, runDefI, ioAt, insA, chL, getO, setO, getL, setL, obAt, eFd, eFV, eFB, fFld, fMeth, fMethI, fMake, fCallI, aHere, fIsO, sFldS, setF, Rs.fd, Fd.d, O.d, fMethD, chF, sAppF, fPopF, fPop0, fPop1, sIns, sRetI, sRetNI, fZip, fML, opAny, opAll, opSorted, opMaxL, opMinL, opRfind, opCount, List.map_cons, List.map_nil, cInA, cNinA, inD, itD, fItA, eItA, cLtA, cLeA, fRr1, fRr2, opInt, sPar, fCallD, fRaise0, fRaise1, sTryAs, sTry, aftr, noX, allEq_const, fXf, fXi, fLc, lcL, unE, tYs, Vs.ret, xLock, inis, bof, sNil, sSeq, sAsg, sRet, sRetV, sRetN, sIf, sDrop, sTg, sFor, sBrk, sCnt, sApp, sExt, sOwn, sSetI, opSetI, sLock, unlk, sbnd, bnd, fOp, fCh, fCl, fCall, fLst, fTup, fSl, fIf, fAnd, fOr, fNot, fTru, fAndV, fOrV, fNotV, fNeg, fIsi, fM1, fM2, fRg1, fRg2, fEn, fRev, fSg, fTp, fIt, eIt, eB, eV, eC, frz, shm, aCons, aNil, poN, poS, Rs.d, Rs.sl, vB, List.cons_append, List.nil_append, List.append_nil, List.replicate_zero, List.replicate_succ, List.getElem?_cons_zero, List.getElem?_cons_succ, List.set_cons_zero, List.set_cons_succ, List.length_cons, List.length_nil, opLen, lenD, opList, opAdd, opSub, opMul, opMod, opDiv, opPow, opMin, opMax, opIx, opSl, cmpB, cEq, cNe, cIsN, cNotN, truD, tgN, tgT, setAll, isKd, opFind, opFind3, opStarts, opStarts3, Nat.reduceLT, Nat.reduceAdd, Nat.reduceSub, Nat.reduceLeDiff, Int.reduceLT, Int.reduceLE, Int.reduceNeg, reduceIte, and_self, true_and, and_true, decide_true, decide_false, Int.toNat_natCast, decide_eq_false n1, s3, decide_eq_false h8', hs, hl]
theorem due_else {t : List Nat} (h : t.head? = some 111 ∨ t.head? = some 108) (M : List D) : g_law_due [.str t, .lst M] = some (.rt (.sh (.str t))) := by
  have n1 : ¬ t = [100, 114, 111, 112] := fun e => by rw [e] at h; simp at h
  have s3 : Txt.startswith (S t) (S [112, 97, 99, 116, 32]) = false := st_no (by rcases h with h | h <;> rw [h] <;> decide) (by decide)
  unfold g_law_due b_law_due i2_law_due i4_law_due
  simp (disch := first | omega | assumption) only [if_pos, if_neg, decide_eq_true, decide_eq_false, atI_of, cutL_take, cutL_drop, cutL_mid, ge_iff_le, gt_iff_lt, Int.reduceToNat, Int.toNat_zero, Int.toNat_one, Bool.not_true, Bool.not_false, szl, sStuck, fLenS, cGtA, sAppQ, sSetQ, sForT, forTL, opSortT, fDItems, fDKeys, fLcO, D.key, fDNew, fDGet, sDPutV, fDSet, fRg3, fChV, fSortL, frL, frS, fSortB, sRem, sqAt, eIxI, fItm, fItV, chS, sItC, sItA, sItI, sItS, fTmp, Sl.mut, Sl.th, O.d, sqD, D.atm, sTryR, fSq, aConsF, aNilF, eO, sTgF, setFd, Fd.sl, opJoinRev, fLRev, runDef, runDefI, ioAt, insA, chL, getO, setO, getL, setL, obAt, eFd, eFV, eFB, fFld, fMeth, fMethI, fMake, fCallI, aHere, fIsO, sFldS, setF, Rs.fd, Fd.d, O.d, fMethD, chF, sAppF, fPopF, fPop0, fPop1, sIns, sRetI, sRetNI, fZip, fML, opAny, opAll, opSorted, opMaxL, opMinL, opRfind, opCount, List.map_cons, List.map_nil, cInA, cNinA, inD, itD, fItA, eItA, cLtA, cLeA, fRr1, fRr2, opInt, sPar, fCallD, fRaise0, fRaise1, sTryAs, sTry, aftr, noX, allEq_const, fXf, fXi, fLc, lcL, unE, tYs, Vs.ret, xLock, inis, bof, sNil, sSeq, sAsg, sRet, sRetV, sRetN, sIf, sDrop, sTg, sFor, sBrk, sCnt, sApp, sExt, sOwn, sSetI, opSetI, sLock, unlk, sbnd, bnd, fOp, fCh, fCl, fCall, fLst, fTup, fSl, fIf, fAnd, fOr, fNot, fTru, fAndV, fOrV, fNotV, fNeg, fIsi, fM1, fM2, fRg1, fRg2, fEn, fRev, fSg, fTp, fIt, eIt, eB, eV, eC, frz, shm, aCons, aNil, poN, poS, Rs.d, Rs.sl, vB, List.cons_append, List.nil_append, List.append_nil, List.replicate_zero, List.replicate_succ, List.getElem?_cons_zero, List.getElem?_cons_succ, List.set_cons_zero, List.set_cons_succ, List.length_cons, List.length_nil, opLen, lenD, opList, opAdd, opSub, opMul, opMod, opDiv, opPow, opMin, opMax, opIx, opSl, cmpB, cEq, cNe, cIsN, cNotN, truD, tgN, tgT, setAll, isKd, opFind, opFind3, opStarts, opStarts3, Nat.reduceLT, Nat.reduceAdd, Nat.reduceSub, Nat.reduceLeDiff, Int.reduceLT, Int.reduceLE, Int.reduceNeg, reduceIte, and_self, true_and, and_true, decide_true, decide_false, Int.toNat_natCast, decide_eq_false n1, s3]

/-! k91 -/
def okP (ps : List (List Nat × List Nat)) : Prop := ∀ p ∈ ps, p.1.length ≤ 60 ∧ p.2.length ≤ 60
def stE (ns : List Int) (od : D) (ps : List (List Nat × List Nat)) (L : List Nat) (rs : List (List Nat × List Nat)) (s4 s5 : Sl) : En := [.sh (.scr ns), .tr (dk od ps), .sh (.str L), .ow (rowsD rs), s4, s5]
theorem cNe_str (t : List Nat) : cNe (.str t) (.str t) = some false := by
  unfold cNe cEq
  simp
theorem cNe_bb (a b : Bool) : cNe (.tup [.bl a, .bl b]) (.tup [.bl a, .bl b]) = some false := by
  cases a <;> cases b <;> decide
theorem pre_step {ns : List Int} {od od' : D} {ps ps' : List (List Nat × List Nat)} {L t : List Nat} {c : Int} {s5 : Sl} {A : D} (r1 : g_law_row [.int c, .str L] = some (.rt (.sh (.str t)))) (v : g_law_told (dk od ps) [.str t] = some (.rt (.sh A) (dk od' ps'))) (u : g_law_due [.str t, .lst (rowsD ps)] = some (.rt (.sh A))) (hA : cNe A A = some false) {R : Option SO}
    (h : sSeq (i3_law) (sSeq (i4_law) (i5_law)) (stE ns od' ps' L ps (.sh (.int c)) (.sh (.str t))) = R) : l1_law (stE ns od ps L ps (.sh (.int c)) s5) = R := by
  unfold l1_law
  refine seq_nx (e1 := stE ns od ps L ps (.sh (.int c)) (.sh (.str t))) (by unfold stE; simp (disch := first | omega | assumption) only [if_pos, if_neg, decide_eq_true, decide_eq_false, atI_of, cutL_take, cutL_drop, cutL_mid, ge_iff_le, gt_iff_lt, Int.reduceToNat, Int.toNat_zero, Int.toNat_one, Bool.not_true, Bool.not_false, szl, sStuck, fLenS, cGtA, sAppQ, sSetQ, sForT, forTL, opSortT, fDItems, fDKeys, fLcO, D.key, fDNew, fDGet, sDPutV, fDSet, fRg3, fChV, fSortL, frL, frS, fSortB, sRem, sqAt, eIxI, fItm, fItV, chS, sItC, sItA, sItI, sItS, fTmp, Sl.mut, Sl.th, O.d, sqD, D.atm, sTryR, fSq, aConsF, aNilF, eO, sTgF, setFd, Fd.sl, opJoinRev, fLRev, runDef, runDefI, ioAt, insA, chL, getO, setO, getL, setL, obAt, eFd, eFV, eFB, fFld, fMeth, fMethI, fMake, fCallI, aHere, fIsO, sFldS, setF, Rs.fd, Fd.d, O.d, fMethD, chF, sAppF, fPopF, fPop0, fPop1, sIns, sRetI, sRetNI, fZip, fML, opAny, opAll, opSorted, opMaxL, opMinL, opRfind, opCount, List.map_cons, List.map_nil, cInA, cNinA, inD, itD, fItA, eItA, cLtA, cLeA, fRr1, fRr2, opInt, sPar, fCallD, fRaise0, fRaise1, sTryAs, sTry, aftr, noX, allEq_const, fXf, fXi, fLc, lcL, unE, tYs, Vs.ret, xLock, inis, bof, sNil, sSeq, sAsg, sRet, sRetV, sRetN, sIf, sDrop, sTg, sFor, sBrk, sCnt, sApp, sExt, sOwn, sSetI, opSetI, sLock, unlk, sbnd, bnd, fOp, fCh, fCl, fCall, fLst, fTup, fSl, fIf, fAnd, fOr, fNot, fTru, fAndV, fOrV, fNotV, fNeg, fIsi, fM1, fM2, fRg1, fRg2, fEn, fRev, fSg, fTp, fIt, eIt, eB, eV, eC, frz, shm, aCons, aNil, poN, poS, Rs.d, Rs.sl, vB, List.cons_append, List.nil_append, List.append_nil, List.replicate_zero, List.replicate_succ, List.getElem?_cons_zero, List.getElem?_cons_succ, List.set_cons_zero, List.set_cons_succ, List.length_cons, List.length_nil, opLen, lenD, opList, opAdd, opSub, opMul, opMod, opDiv, opPow, opMin, opMax, opIx, opSl, cmpB, cEq, cNe, cIsN, cNotN, truD, tgN, tgT, setAll, isKd, opFind, opFind3, opStarts, opStarts3, Nat.reduceLT, Nat.reduceAdd, Nat.reduceSub, Nat.reduceLeDiff, Int.reduceLT, Int.reduceLE, Int.reduceNeg, reduceIte, and_self, true_and, and_true, decide_true, decide_false, Int.toNat_natCast, r1]) ?_
  refine seq_nx (e1 := stE ns od' ps' L ps (.sh (.int c)) (.sh (.str t))) ?_ h
  obtain ⟨M, hM⟩ : ∃ M, M = rowsD ps := ⟨_, rfl⟩
  unfold dk at v
  unfold stE i2_law dk
  rw [← hM] at u ⊢
  unfold cNe cEq at hA
  simp (disch := first | omega | assumption) only [if_pos, if_neg, decide_eq_true, decide_eq_false, atI_of, cutL_take, cutL_drop, cutL_mid, ge_iff_le, gt_iff_lt, Int.reduceToNat, Int.toNat_zero, Int.toNat_one, Bool.not_true, Bool.not_false, szl, sStuck, fLenS, cGtA, sAppQ, sSetQ, sForT, forTL, opSortT, fDItems, fDKeys, fLcO, D.key, fDNew, fDGet, sDPutV, fDSet, fRg3, fChV, fSortL, frL, frS, fSortB, sRem, sqAt, eIxI, fItm, fItV, chS, sItC, sItA, sItI, sItS, fTmp, Sl.mut, Sl.th, O.d, sqD, D.atm, sTryR, fSq, aConsF, aNilF, eO, sTgF, setFd, Fd.sl, opJoinRev, fLRev, runDef, runDefI, ioAt, insA, chL, getO, setO, getL, setL, obAt, eFd, eFV, eFB, fFld, fMeth, fMethI, fMake, fCallI, aHere, fIsO, sFldS, setF, Rs.fd, Fd.d, O.d, fMethD, chF, sAppF, fPopF, fPop0, fPop1, sIns, sRetI, sRetNI, fZip, fML, opAny, opAll, opSorted, opMaxL, opMinL, opRfind, opCount, List.map_cons, List.map_nil, cInA, cNinA, inD, itD, fItA, eItA, cLtA, cLeA, fRr1, fRr2, opInt, sPar, fCallD, fRaise0, fRaise1, sTryAs, sTry, aftr, noX, allEq_const, fXf, fXi, fLc, lcL, unE, tYs, Vs.ret, xLock, inis, bof, sNil, sSeq, sAsg, sRet, sRetV, sRetN, sIf, sDrop, sTg, sFor, sBrk, sCnt, sApp, sExt, sOwn, sSetI, opSetI, sLock, unlk, sbnd, bnd, fOp, fCh, fCl, fCall, fLst, fTup, fSl, fIf, fAnd, fOr, fNot, fTru, fAndV, fOrV, fNotV, fNeg, fIsi, fM1, fM2, fRg1, fRg2, fEn, fRev, fSg, fTp, fIt, eIt, eB, eV, eC, frz, shm, aCons, aNil, poN, poS, Rs.d, Rs.sl, vB, List.cons_append, List.nil_append, List.append_nil, List.replicate_zero, List.replicate_succ, List.getElem?_cons_zero, List.getElem?_cons_succ, List.set_cons_zero, List.set_cons_succ, List.length_cons, List.length_nil, opLen, lenD, opList, opAdd, opSub, opMul, opMod, opDiv, opPow, opMin, opMax, opIx, opSl, cmpB, cEq, cNe, cIsN, cNotN, truD, tgN, tgT, setAll, isKd, opFind, opFind3, opStarts, opStarts3, Nat.reduceLT, Nat.reduceAdd, Nat.reduceSub, Nat.reduceLeDiff, Int.reduceLT, Int.reduceLE, Int.reduceNeg, reduceIte, and_self, true_and, and_true, decide_true, decide_false, Int.toNat_natCast, v, u, hA]
theorem cutL_last {α : Type} (l : List α) (x : α) : cutL (l ++ [x]) none (some (-1)) = l := by
  unfold cutL HT.sIx
  have e : (-1 + ((l.length : Int) + 1)).toNat = l.length := by omega
  simp [e]
theorem e_step {ns : List Int} {L : List Nat} (hL : goodL L) {od : D} (ho : IsO L od) {ps : List (List Nat × List Nat)} (hps : ps.length ≤ 8) (hpp : okP ps) (c : Int) (hc : Builtin.Int.intBits c ≤ 1048576) (s5 : Sl) : ∃ L' od' ps' s5', l1_law (stE ns od ps L ps (.sh (.int c)) s5) = some (.nx (stE ns od' ps' L' ps' (.sh (.int c)) s5')) ∧ goodL L' ∧ IsO L' od' ∧ ps'.length ≤ 8 ∧ okP ps' := by
  obtain ⟨r, r1, r2⟩ := e_row hL c hc
  obtain ⟨t, ht⟩ : ∃ t, t = r.txt := ⟨_, rfl⟩
  rw [← ht] at r1
  -- a row that is no drop, no pact, no letters
  have plain : ∀ (od' : D), t.head? = some 111 → sSeq (i3_law) (sSeq (i4_law) (i5_law)) (stE ns od' ps L ps (.sh (.int c)) (.sh (.str t))) = some (.nx (stE ns od' ps L ps (.sh (.int c)) (.sh (.str t)))) := fun od' h1 => by
    have n1 : ¬ t = [100, 114, 111, 112] := fun e => by rw [e] at h1; simp at h1
    have s1 : Txt.startswith (S t) (S [108, 101, 116, 116, 101, 114, 115, 32]) = false := st_no (by rw [h1]; decide) (by decide)
    have s3 : Txt.startswith (S t) (S [112, 97, 99, 116, 32]) = false := st_no (by rw [h1]; decide) (by decide)
    unfold stE i3_law i4_law i5_law
    simp (disch := first | omega | assumption) only [if_pos, if_neg, decide_eq_true, decide_eq_false, atI_of, cutL_take, cutL_drop, cutL_mid, ge_iff_le, gt_iff_lt, Int.reduceToNat, Int.toNat_zero, Int.toNat_one, Bool.not_true, Bool.not_false, szl, sStuck, fLenS, cGtA, sAppQ, sSetQ, sForT, forTL, opSortT, fDItems, fDKeys, fLcO, D.key, fDNew, fDGet, sDPutV, fDSet, fRg3, fChV, fSortL, frL, frS, fSortB, sRem, sqAt, eIxI, fItm, fItV, chS, sItC, sItA, sItI, sItS, fTmp, Sl.mut, Sl.th, O.d, sqD, D.atm, sTryR, fSq, aConsF, aNilF, eO, sTgF, setFd, Fd.sl, opJoinRev, fLRev, runDef, runDefI, ioAt, insA, chL, getO, setO, getL, setL, obAt, eFd, eFV, eFB, fFld, fMeth, fMethI, fMake, fCallI, aHere, fIsO, sFldS, setF, Rs.fd, Fd.d, O.d, fMethD, chF, sAppF, fPopF, fPop0, fPop1, sIns, sRetI, sRetNI, fZip, fML, opAny, opAll, opSorted, opMaxL, opMinL, opRfind, opCount, List.map_cons, List.map_nil, cInA, cNinA, inD, itD, fItA, eItA, cLtA, cLeA, fRr1, fRr2, opInt, sPar, fCallD, fRaise0, fRaise1, sTryAs, sTry, aftr, noX, allEq_const, fXf, fXi, fLc, lcL, unE, tYs, Vs.ret, xLock, inis, bof, sNil, sSeq, sAsg, sRet, sRetV, sRetN, sIf, sDrop, sTg, sFor, sBrk, sCnt, sApp, sExt, sOwn, sSetI, opSetI, sLock, unlk, sbnd, bnd, fOp, fCh, fCl, fCall, fLst, fTup, fSl, fIf, fAnd, fOr, fNot, fTru, fAndV, fOrV, fNotV, fNeg, fIsi, fM1, fM2, fRg1, fRg2, fEn, fRev, fSg, fTp, fIt, eIt, eB, eV, eC, frz, shm, aCons, aNil, poN, poS, Rs.d, Rs.sl, vB, List.cons_append, List.nil_append, List.append_nil, List.replicate_zero, List.replicate_succ, List.getElem?_cons_zero, List.getElem?_cons_succ, List.set_cons_zero, List.set_cons_succ, List.length_cons, List.length_nil, opLen, lenD, opList, opAdd, opSub, opMul, opMod, opDiv, opPow, opMin, opMax, opIx, opSl, cmpB, cEq, cNe, cIsN, cNotN, truD, tgN, tgT, setAll, isKd, opFind, opFind3, opStarts, opStarts3, Nat.reduceLT, Nat.reduceAdd, Nat.reduceSub, Nat.reduceLeDiff, Int.reduceLT, Int.reduceLE, Int.reduceNeg, reduceIte, and_self, true_and, and_true, decide_true, decide_false, Int.toNat_natCast, decide_eq_false n1, s1, s3]
  cases r with
  | drop =>
    have ht : t = [100, 114, 111, 112] := ht
    obtain ⟨s1, s2, s3⟩ := drop_st
    rw [ht] at r1
    rcases List.eq_nil_or_concat ps with rfl | ⟨qs, p, rfl⟩
    · have v := lt_ex (e_tell_drop0 ho) (.inr rfl)
      refine ⟨L, od, [], .sh (.str [100, 114, 111, 112]), pre_step r1 v due_drop0 (cNe_bb _ _) ?_, hL, ho, by simp, hpp⟩
      unfold stE i3_law i4_law i5_law rowsD
      simp (disch := first | omega | assumption) only [if_pos, if_neg, decide_eq_true, decide_eq_false, atI_of, cutL_take, cutL_drop, cutL_mid, ge_iff_le, gt_iff_lt, Int.reduceToNat, Int.toNat_zero, Int.toNat_one, Bool.not_true, Bool.not_false, szl, sStuck, fLenS, cGtA, sAppQ, sSetQ, sForT, forTL, opSortT, fDItems, fDKeys, fLcO, D.key, fDNew, fDGet, sDPutV, fDSet, fRg3, fChV, fSortL, frL, frS, fSortB, sRem, sqAt, eIxI, fItm, fItV, chS, sItC, sItA, sItI, sItS, fTmp, Sl.mut, Sl.th, O.d, sqD, D.atm, sTryR, fSq, aConsF, aNilF, eO, sTgF, setFd, Fd.sl, opJoinRev, fLRev, runDef, runDefI, ioAt, insA, chL, getO, setO, getL, setL, obAt, eFd, eFV, eFB, fFld, fMeth, fMethI, fMake, fCallI, aHere, fIsO, sFldS, setF, Rs.fd, Fd.d, O.d, fMethD, chF, sAppF, fPopF, fPop0, fPop1, sIns, sRetI, sRetNI, fZip, fML, opAny, opAll, opSorted, opMaxL, opMinL, opRfind, opCount, List.map_cons, List.map_nil, cInA, cNinA, inD, itD, fItA, eItA, cLtA, cLeA, fRr1, fRr2, opInt, sPar, fCallD, fRaise0, fRaise1, sTryAs, sTry, aftr, noX, allEq_const, fXf, fXi, fLc, lcL, unE, tYs, Vs.ret, xLock, inis, bof, sNil, sSeq, sAsg, sRet, sRetV, sRetN, sIf, sDrop, sTg, sFor, sBrk, sCnt, sApp, sExt, sOwn, sSetI, opSetI, sLock, unlk, sbnd, bnd, fOp, fCh, fCl, fCall, fLst, fTup, fSl, fIf, fAnd, fOr, fNot, fTru, fAndV, fOrV, fNotV, fNeg, fIsi, fM1, fM2, fRg1, fRg2, fEn, fRev, fSg, fTp, fIt, eIt, eB, eV, eC, frz, shm, aCons, aNil, poN, poS, Rs.d, Rs.sl, vB, List.cons_append, List.nil_append, List.append_nil, List.replicate_zero, List.replicate_succ, List.getElem?_cons_zero, List.getElem?_cons_succ, List.set_cons_zero, List.set_cons_succ, List.length_cons, List.length_nil, opLen, lenD, opList, opAdd, opSub, opMul, opMod, opDiv, opPow, opMin, opMax, opIx, opSl, cmpB, cEq, cNe, cIsN, cNotN, truD, tgN, tgT, setAll, isKd, opFind, opFind3, opStarts, opStarts3, Nat.reduceLT, Nat.reduceAdd, Nat.reduceSub, Nat.reduceLeDiff, Int.reduceLT, Int.reduceLE, Int.reduceNeg, reduceIte, and_self, true_and, and_true, decide_true, decide_false, Int.toNat_natCast, s1, s3, show cutL ([] : List D) none (some (-1)) = [] from rfl]
    · rw [List.concat_eq_append] at *
      have hl : qs.length + 1 ≤ 8 := by rw [List.length_append] at hps; exact hps
      obtain ⟨q1, q2⟩ := hpp p (by simp)
      have v := lt_rt (e_tell_drop ho qs p q1 q2)
      refine ⟨L, od, qs, .sh (.str [100, 114, 111, 112]), pre_step r1 v (due_drop qs p (by omega)) (cNe_str _) ?_, hL, ho, by omega, fun x hx => hpp x (by simp [hx])⟩
      have e : cutL (rowsD (qs ++ [p])) none (some (-1)) = rowsD qs := by
        unfold rowsD
        rw [List.map_append]
        exact cutL_last _ _
      unfold stE i3_law i4_law i5_law
      obtain ⟨M, hM⟩ : ∃ M, M = rowsD (qs ++ [p]) := ⟨_, rfl⟩
      obtain ⟨N, hN⟩ : ∃ N, N = rowsD qs := ⟨_, rfl⟩
      rw [← hM, ← hN] at e
      rw [← hM]
      simp (disch := first | omega | assumption) only [if_pos, if_neg, decide_eq_true, decide_eq_false, atI_of, cutL_take, cutL_drop, cutL_mid, ge_iff_le, gt_iff_lt, Int.reduceToNat, Int.toNat_zero, Int.toNat_one, Bool.not_true, Bool.not_false, szl, sStuck, fLenS, cGtA, sAppQ, sSetQ, sForT, forTL, opSortT, fDItems, fDKeys, fLcO, D.key, fDNew, fDGet, sDPutV, fDSet, fRg3, fChV, fSortL, frL, frS, fSortB, sRem, sqAt, eIxI, fItm, fItV, chS, sItC, sItA, sItI, sItS, fTmp, Sl.mut, Sl.th, O.d, sqD, D.atm, sTryR, fSq, aConsF, aNilF, eO, sTgF, setFd, Fd.sl, opJoinRev, fLRev, runDef, runDefI, ioAt, insA, chL, getO, setO, getL, setL, obAt, eFd, eFV, eFB, fFld, fMeth, fMethI, fMake, fCallI, aHere, fIsO, sFldS, setF, Rs.fd, Fd.d, O.d, fMethD, chF, sAppF, fPopF, fPop0, fPop1, sIns, sRetI, sRetNI, fZip, fML, opAny, opAll, opSorted, opMaxL, opMinL, opRfind, opCount, List.map_cons, List.map_nil, cInA, cNinA, inD, itD, fItA, eItA, cLtA, cLeA, fRr1, fRr2, opInt, sPar, fCallD, fRaise0, fRaise1, sTryAs, sTry, aftr, noX, allEq_const, fXf, fXi, fLc, lcL, unE, tYs, Vs.ret, xLock, inis, bof, sNil, sSeq, sAsg, sRet, sRetV, sRetN, sIf, sDrop, sTg, sFor, sBrk, sCnt, sApp, sExt, sOwn, sSetI, opSetI, sLock, unlk, sbnd, bnd, fOp, fCh, fCl, fCall, fLst, fTup, fSl, fIf, fAnd, fOr, fNot, fTru, fAndV, fOrV, fNotV, fNeg, fIsi, fM1, fM2, fRg1, fRg2, fEn, fRev, fSg, fTp, fIt, eIt, eB, eV, eC, frz, shm, aCons, aNil, poN, poS, Rs.d, Rs.sl, vB, List.cons_append, List.nil_append, List.append_nil, List.replicate_zero, List.replicate_succ, List.getElem?_cons_zero, List.getElem?_cons_succ, List.set_cons_zero, List.set_cons_succ, List.length_cons, List.length_nil, opLen, lenD, opList, opAdd, opSub, opMul, opMod, opDiv, opPow, opMin, opMax, opIx, opSl, cmpB, cEq, cNe, cIsN, cNotN, truD, tgN, tgT, setAll, isKd, opFind, opFind3, opStarts, opStarts3, Nat.reduceLT, Nat.reduceAdd, Nat.reduceSub, Nat.reduceLeDiff, Int.reduceLT, Int.reduceLE, Int.reduceNeg, reduceIte, and_self, true_and, and_true, decide_true, decide_false, Int.toNat_natCast, s1, s3, e]
      rw [hN]
  | len =>
    obtain ⟨od', o1, o2⟩ := e_tell_ord hL r2 (.inl rfl) ht ho ps
    have h1 : t.head? = some 111 := by rw [ht]; rfl
    exact ⟨L, od', ps, _, pre_step r1 (lt_rt o2) (due_else (.inl h1) (rowsD ps)) (cNe_str _) (plain od' h1), hL, o1, hps, hpp⟩
  | right =>
    obtain ⟨od', o1, o2⟩ := e_tell_ord hL r2 (.inr (.inl rfl)) ht ho ps
    have h1 : t.head? = some 111 := by rw [ht]; rfl
    exact ⟨L, od', ps, _, pre_step r1 (lt_rt o2) (due_else (.inl h1) (rowsD ps)) (cNe_str _) (plain od' h1), hL, o1, hps, hpp⟩
  | wts Z =>
    obtain ⟨od', o1, o2⟩ := e_tell_ord hL r2 (.inr (.inr ⟨Z, rfl⟩)) ht ho ps
    have h1 : t.head? = some 111 := by rw [ht]; rfl
    exact ⟨L, od', ps, _, pre_step r1 (lt_rt o2) (due_else (.inl h1) (rowsD ps)) (cNe_str _) (plain od' h1), hL, o1, hps, hpp⟩
  | lets T =>
    have ht : t = lets8 ++ T := ht
    have hT : goodL T := r2
    have h6 := hT.2.1
    have h1 : t.head? = some 108 := by rw [ht]; rfl
    have o2 := e_tell_lets hT od ps
    rw [← ht] at o2
    have n1 : ¬ t = [100, 114, 111, 112] := fun e => by rw [e] at h1; simp at h1
    have s1 : Txt.startswith (S t) (S [108, 101, 116, 116, 101, 114, 115, 32]) = true := st_of ht
    have s3 : Txt.startswith (S t) (S [112, 97, 99, 116, 32]) = false := st_no (by rw [h1]; decide) (by decide)
    have d8 : t.drop 8 = T := by rw [ht]; rfl
    have tl : t.length ≤ 100 := by rw [ht, List.length_append]; show 8 + _ ≤ _; omega
    have r8 : Int.toNat 8 = 8 := rfl
    refine ⟨T, _, [], .sh (.str t), pre_step r1 (lt_rt o2) (due_else (.inr h1) (rowsD ps)) (cNe_str _) ?_, hT, .len, by simp, fun x hx => nomatch hx⟩
    have e : rowsD [] = [] := rfl
    unfold stE i3_law i4_law i5_law
    rw [e]
    simp (disch := first | omega | assumption) only [if_pos, if_neg, decide_eq_true, decide_eq_false, atI_of, cutL_take, cutL_drop, cutL_mid, ge_iff_le, gt_iff_lt, Int.reduceToNat, Int.toNat_zero, Int.toNat_one, Bool.not_true, Bool.not_false, szl, sStuck, fLenS, cGtA, sAppQ, sSetQ, sForT, forTL, opSortT, fDItems, fDKeys, fLcO, D.key, fDNew, fDGet, sDPutV, fDSet, fRg3, fChV, fSortL, frL, frS, fSortB, sRem, sqAt, eIxI, fItm, fItV, chS, sItC, sItA, sItI, sItS, fTmp, Sl.mut, Sl.th, O.d, sqD, D.atm, sTryR, fSq, aConsF, aNilF, eO, sTgF, setFd, Fd.sl, opJoinRev, fLRev, runDef, runDefI, ioAt, insA, chL, getO, setO, getL, setL, obAt, eFd, eFV, eFB, fFld, fMeth, fMethI, fMake, fCallI, aHere, fIsO, sFldS, setF, Rs.fd, Fd.d, O.d, fMethD, chF, sAppF, fPopF, fPop0, fPop1, sIns, sRetI, sRetNI, fZip, fML, opAny, opAll, opSorted, opMaxL, opMinL, opRfind, opCount, List.map_cons, List.map_nil, cInA, cNinA, inD, itD, fItA, eItA, cLtA, cLeA, fRr1, fRr2, opInt, sPar, fCallD, fRaise0, fRaise1, sTryAs, sTry, aftr, noX, allEq_const, fXf, fXi, fLc, lcL, unE, tYs, Vs.ret, xLock, inis, bof, sNil, sSeq, sAsg, sRet, sRetV, sRetN, sIf, sDrop, sTg, sFor, sBrk, sCnt, sApp, sExt, sOwn, sSetI, opSetI, sLock, unlk, sbnd, bnd, fOp, fCh, fCl, fCall, fLst, fTup, fSl, fIf, fAnd, fOr, fNot, fTru, fAndV, fOrV, fNotV, fNeg, fIsi, fM1, fM2, fRg1, fRg2, fEn, fRev, fSg, fTp, fIt, eIt, eB, eV, eC, frz, shm, aCons, aNil, poN, poS, Rs.d, Rs.sl, vB, List.cons_append, List.nil_append, List.append_nil, List.replicate_zero, List.replicate_succ, List.getElem?_cons_zero, List.getElem?_cons_succ, List.set_cons_zero, List.set_cons_succ, List.length_cons, List.length_nil, opLen, lenD, opList, opAdd, opSub, opMul, opMod, opDiv, opPow, opMin, opMax, opIx, opSl, cmpB, cEq, cNe, cIsN, cNotN, truD, tgN, tgT, setAll, isKd, opFind, opFind3, opStarts, opStarts3, Nat.reduceLT, Nat.reduceAdd, Nat.reduceSub, Nat.reduceLeDiff, Int.reduceLT, Int.reduceLE, Int.reduceNeg, reduceIte, and_self, true_and, and_true, decide_true, decide_false, Int.toNat_natCast, decide_eq_false n1, s1, s3, r8, d8]
  | pact a b =>
    have ht : t = ptx (a, b) := ht
    have r2 : inW L a ∧ inW L b := r2
    have o2 := e_tell_pact hL r2 ho ps hps
    have u := due_pact (a := a) (b := b) ps hps
    rw [← ht] at o2 u
    have h1 : t.head? = some 112 := by rw [ht]; rfl
    have n1 : ¬ t = [100, 114, 111, 112] := fun e => by rw [e] at h1; simp at h1
    have s1 : Txt.startswith (S t) (S [108, 101, 116, 116, 101, 114, 115, 32]) = false := st_no (by rw [h1]; decide) (by decide)
    have s3 : Txt.startswith (S t) (S [112, 97, 99, 116, 32]) = true := st_of ht
    have rl : (rowsD ps).length = ps.length := by unfold rowsD; rw [List.length_map]
    by_cases h8 : ps.length = 8
    · rw [if_pos h8] at o2 u
      refine ⟨L, od, ps, .sh (.str t), pre_step r1 (lt_ex o2 (.inl rfl)) u (cNe_bb _ _) ?_, hL, ho, hps, hpp⟩
      unfold stE i3_law i4_law i5_law
      obtain ⟨M, hM⟩ : ∃ M, M = rowsD ps := ⟨_, rfl⟩
      rw [← hM] at rl ⊢
      simp (disch := first | omega | assumption) only [if_pos, if_neg, decide_eq_true, decide_eq_false, atI_of, cutL_take, cutL_drop, cutL_mid, ge_iff_le, gt_iff_lt, Int.reduceToNat, Int.toNat_zero, Int.toNat_one, Bool.not_true, Bool.not_false, szl, sStuck, fLenS, cGtA, sAppQ, sSetQ, sForT, forTL, opSortT, fDItems, fDKeys, fLcO, D.key, fDNew, fDGet, sDPutV, fDSet, fRg3, fChV, fSortL, frL, frS, fSortB, sRem, sqAt, eIxI, fItm, fItV, chS, sItC, sItA, sItI, sItS, fTmp, Sl.mut, Sl.th, O.d, sqD, D.atm, sTryR, fSq, aConsF, aNilF, eO, sTgF, setFd, Fd.sl, opJoinRev, fLRev, runDef, runDefI, ioAt, insA, chL, getO, setO, getL, setL, obAt, eFd, eFV, eFB, fFld, fMeth, fMethI, fMake, fCallI, aHere, fIsO, sFldS, setF, Rs.fd, Fd.d, O.d, fMethD, chF, sAppF, fPopF, fPop0, fPop1, sIns, sRetI, sRetNI, fZip, fML, opAny, opAll, opSorted, opMaxL, opMinL, opRfind, opCount, List.map_cons, List.map_nil, cInA, cNinA, inD, itD, fItA, eItA, cLtA, cLeA, fRr1, fRr2, opInt, sPar, fCallD, fRaise0, fRaise1, sTryAs, sTry, aftr, noX, allEq_const, fXf, fXi, fLc, lcL, unE, tYs, Vs.ret, xLock, inis, bof, sNil, sSeq, sAsg, sRet, sRetV, sRetN, sIf, sDrop, sTg, sFor, sBrk, sCnt, sApp, sExt, sOwn, sSetI, opSetI, sLock, unlk, sbnd, bnd, fOp, fCh, fCl, fCall, fLst, fTup, fSl, fIf, fAnd, fOr, fNot, fTru, fAndV, fOrV, fNotV, fNeg, fIsi, fM1, fM2, fRg1, fRg2, fEn, fRev, fSg, fTp, fIt, eIt, eB, eV, eC, frz, shm, aCons, aNil, poN, poS, Rs.d, Rs.sl, vB, List.cons_append, List.nil_append, List.append_nil, List.replicate_zero, List.replicate_succ, List.getElem?_cons_zero, List.getElem?_cons_succ, List.set_cons_zero, List.set_cons_succ, List.length_cons, List.length_nil, opLen, lenD, opList, opAdd, opSub, opMul, opMod, opDiv, opPow, opMin, opMax, opIx, opSl, cmpB, cEq, cNe, cIsN, cNotN, truD, tgN, tgT, setAll, isKd, opFind, opFind3, opStarts, opStarts3, Nat.reduceLT, Nat.reduceAdd, Nat.reduceSub, Nat.reduceLeDiff, Int.reduceLT, Int.reduceLE, Int.reduceNeg, reduceIte, and_self, true_and, and_true, decide_true, decide_false, Int.toNat_natCast, decide_eq_false n1, s1, s3, decide_eq_false (show ¬ (M.length : Int) < 8 by omega)]
    · rw [if_neg h8] at o2 u
      refine ⟨L, od, ps ++ [(a, b)], .sh (.str t), pre_step r1 (lt_rt o2) u (cNe_str _) ?_, hL, ho, by rw [List.length_append]; show _ + 1 ≤ 8; omega, fun x hx => ?_⟩
      · have e : rowsD (ps ++ [(a, b)]) = rowsD ps ++ [.str t] := by unfold rowsD; rw [List.map_append, ht]; rfl
        unfold stE i3_law i4_law i5_law
        rw [e]
        obtain ⟨M, hM⟩ : ∃ M, M = rowsD ps := ⟨_, rfl⟩
        rw [← hM] at rl ⊢
        simp (disch := first | omega | assumption) only [if_pos, if_neg, decide_eq_true, decide_eq_false, atI_of, cutL_take, cutL_drop, cutL_mid, ge_iff_le, gt_iff_lt, Int.reduceToNat, Int.toNat_zero, Int.toNat_one, Bool.not_true, Bool.not_false, szl, sStuck, fLenS, cGtA, sAppQ, sSetQ, sForT, forTL, opSortT, fDItems, fDKeys, fLcO, D.key, fDNew, fDGet, sDPutV, fDSet, fRg3, fChV, fSortL, frL, frS, fSortB, sRem, sqAt, eIxI, fItm, fItV, chS, sItC, sItA, sItI, sItS, fTmp, Sl.mut, Sl.th, O.d, sqD, D.atm, sTryR, fSq, aConsF, aNilF, eO, sTgF, setFd, Fd.sl, opJoinRev, fLRev, runDef, runDefI, ioAt, insA, chL, getO, setO, getL, setL, obAt, eFd, eFV, eFB, fFld, fMeth, fMethI, fMake, fCallI, aHere, fIsO, sFldS, setF, Rs.fd, Fd.d, O.d, fMethD, chF, sAppF, fPopF, fPop0, fPop1, sIns, sRetI, sRetNI, fZip, fML, opAny, opAll, opSorted, opMaxL, opMinL, opRfind, opCount, List.map_cons, List.map_nil, cInA, cNinA, inD, itD, fItA, eItA, cLtA, cLeA, fRr1, fRr2, opInt, sPar, fCallD, fRaise0, fRaise1, sTryAs, sTry, aftr, noX, allEq_const, fXf, fXi, fLc, lcL, unE, tYs, Vs.ret, xLock, inis, bof, sNil, sSeq, sAsg, sRet, sRetV, sRetN, sIf, sDrop, sTg, sFor, sBrk, sCnt, sApp, sExt, sOwn, sSetI, opSetI, sLock, unlk, sbnd, bnd, fOp, fCh, fCl, fCall, fLst, fTup, fSl, fIf, fAnd, fOr, fNot, fTru, fAndV, fOrV, fNotV, fNeg, fIsi, fM1, fM2, fRg1, fRg2, fEn, fRev, fSg, fTp, fIt, eIt, eB, eV, eC, frz, shm, aCons, aNil, poN, poS, Rs.d, Rs.sl, vB, List.cons_append, List.nil_append, List.append_nil, List.replicate_zero, List.replicate_succ, List.getElem?_cons_zero, List.getElem?_cons_succ, List.set_cons_zero, List.set_cons_succ, List.length_cons, List.length_nil, opLen, lenD, opList, opAdd, opSub, opMul, opMod, opDiv, opPow, opMin, opMax, opIx, opSl, cmpB, cEq, cNe, cIsN, cNotN, truD, tgN, tgT, setAll, isKd, opFind, opFind3, opStarts, opStarts3, Nat.reduceLT, Nat.reduceAdd, Nat.reduceSub, Nat.reduceLeDiff, Int.reduceLT, Int.reduceLE, Int.reduceNeg, reduceIte, and_self, true_and, and_true, decide_true, decide_false, Int.toNat_natCast, decide_eq_false n1, s1, s3, decide_eq_true (show (M.length : Int) < 8 by omega)]
      · rcases List.mem_append.mp hx with hx | hx
        · exact hpp x hx
        · rw [List.mem_singleton.mp hx]
          have := r2.1.1
          have := r2.2.1
          dsimp only
          omega
theorem e_fold {ns : List Int} : ∀ (w : List Int), (∀ z ∈ w, Builtin.Int.intBits z ≤ 1048576) → ∀ {L : List Nat}, goodL L → ∀ {od : D}, IsO L od → ∀ {ps : List (List Nat × List Nat)}, ps.length ≤ 8 → okP ps → ∀ s4 s5 : Sl, ∃ L' od' ps' s4' s5', forL (tgN 4) l1_law (w.map D.int) (stE ns od ps L ps s4 s5) = some (.nx (stE ns od' ps' L' ps' s4' s5')) ∧ IsO L' od' ∧ ps'.length ≤ 8 ∧ okP ps'
  | [], _, L, _, od, ho, ps, hp, hpp, s4, s5 => ⟨L, od, ps, s4, s5, rfl, ho, hp, hpp⟩
  | z :: w, hw, L, hL, od, ho, ps, hp, hpp, s4, s5 => by
    obtain ⟨L1, od1, ps1, s51, h1, h2, h3, h4, h5⟩ := e_step (ns := ns) hL ho hp hpp z (hw z List.mem_cons_self) s5
    obtain ⟨L2, od2, ps2, s42, s52, i1, i2, i3, i4⟩ := e_fold (ns := ns) w (fun x hx => hw x (List.mem_cons_of_mem _ hx)) h2 h3 h4 h5 (.sh (.int z)) s51
    refine ⟨L2, od2, ps2, s42, s52, ?_, i2, i3, i4⟩
    have tg : tgN 4 (D.int z) (stE ns od ps L ps s4 s5) = some (stE ns od ps L ps (.sh (.int z)) s5) := rfl
    rw [List.map_cons]
    unfold forL
    rw [tg]
    dsimp only
    rw [h1]
    exact i1
theorem e_down {ns : List Int} {L0 L : List Nat} {od : D} (ho : IsO L od) (s4 s5 : Sl) : ∀ (n : Nat) (ps : List (List Nat × List Nat)), ps.length = n → n ≤ 8 → okP ps → ∀ k, n < k → whL k w2_law l2_law (stE ns od ps L0 ps s4 s5) = some (.nx (stE ns od [] L0 [] s4 s5)) := by
  intro n
  induction n with
  | zero =>
    intro ps hl h8 hp k hk
    obtain rfl := List.eq_nil_of_length_eq_zero hl
    cases k with
    | zero => omega
    | succ k =>
      have e : rowsD [] = [] := rfl
      unfold whL w2_law stE
      rw [e]
      simp (disch := first | omega | assumption) only [if_pos, if_neg, decide_eq_true, decide_eq_false, atI_of, cutL_take, cutL_drop, cutL_mid, ge_iff_le, gt_iff_lt, Int.reduceToNat, Int.toNat_zero, Int.toNat_one, Bool.not_true, Bool.not_false, szl, sStuck, fLenS, cGtA, sAppQ, sSetQ, sForT, forTL, opSortT, fDItems, fDKeys, fLcO, D.key, fDNew, fDGet, sDPutV, fDSet, fRg3, fChV, fSortL, frL, frS, fSortB, sRem, sqAt, eIxI, fItm, fItV, chS, sItC, sItA, sItI, sItS, fTmp, Sl.mut, Sl.th, O.d, sqD, D.atm, sTryR, fSq, aConsF, aNilF, eO, sTgF, setFd, Fd.sl, opJoinRev, fLRev, runDef, runDefI, ioAt, insA, chL, getO, setO, getL, setL, obAt, eFd, eFV, eFB, fFld, fMeth, fMethI, fMake, fCallI, aHere, fIsO, sFldS, setF, Rs.fd, Fd.d, O.d, fMethD, chF, sAppF, fPopF, fPop0, fPop1, sIns, sRetI, sRetNI, fZip, fML, opAny, opAll, opSorted, opMaxL, opMinL, opRfind, opCount, List.map_cons, List.map_nil, cInA, cNinA, inD, itD, fItA, eItA, cLtA, cLeA, fRr1, fRr2, opInt, sPar, fCallD, fRaise0, fRaise1, sTryAs, sTry, aftr, noX, allEq_const, fXf, fXi, fLc, lcL, unE, tYs, Vs.ret, xLock, inis, bof, sNil, sSeq, sAsg, sRet, sRetV, sRetN, sIf, sDrop, sTg, sFor, sBrk, sCnt, sApp, sExt, sOwn, sSetI, opSetI, sLock, unlk, sbnd, bnd, fOp, fCh, fCl, fCall, fLst, fTup, fSl, fIf, fAnd, fOr, fNot, fTru, fAndV, fOrV, fNotV, fNeg, fIsi, fM1, fM2, fRg1, fRg2, fEn, fRev, fSg, fTp, fIt, eIt, eB, eV, eC, frz, shm, aCons, aNil, poN, poS, Rs.d, Rs.sl, vB, List.cons_append, List.nil_append, List.append_nil, List.replicate_zero, List.replicate_succ, List.getElem?_cons_zero, List.getElem?_cons_succ, List.set_cons_zero, List.set_cons_succ, List.length_cons, List.length_nil, opLen, lenD, opList, opAdd, opSub, opMul, opMod, opDiv, opPow, opMin, opMax, opIx, opSl, cmpB, cEq, cNe, cIsN, cNotN, truD, tgN, tgT, setAll, isKd, opFind, opFind3, opStarts, opStarts3, Nat.reduceLT, Nat.reduceAdd, Nat.reduceSub, Nat.reduceLeDiff, Int.reduceLT, Int.reduceLE, Int.reduceNeg, reduceIte, and_self, true_and, and_true, decide_true, decide_false, Int.toNat_natCast]
  | succ n ih =>
    intro ps hl h8 hp k hk
    cases k with
    | zero => omega
    | succ k =>
      rcases List.eq_nil_or_concat ps with rfl | ⟨qs, p, rfl⟩
      · simp at hl
      rw [List.concat_eq_append] at *
      have hl2 : qs.length = n := by rw [List.length_append] at hl; simpa using hl
      obtain ⟨q1, q2⟩ := hp p (by simp)
      have v := lt_rt (e_tell_drop ho qs p q1 q2)
      have ih' := ih qs hl2 (by omega) (fun x hx => hp x (by simp [hx])) k (by omega)
      obtain ⟨M, hM⟩ : ∃ M, M = rowsD (qs ++ [p]) := ⟨_, rfl⟩
      have hMl : M.length = n + 1 := by rw [hM]; unfold rowsD; rw [List.length_map, hl]
      have hgt : (M.length : Int) > 0 := by omega
      have hat : M[M.length - 1]? = some (.str (ptx p)) := by
        rw [hM]
        unfold rowsD
        rw [List.map_append, List.length_append]
        simp
      have hd : M.dropLast = rowsD qs := by
        rw [hM]
        unfold rowsD
        rw [List.map_append]
        simp
      have tst : w2_law (stE ns od (qs ++ [p]) L0 (qs ++ [p]) s4 s5) = some (.ok true (stE ns od (qs ++ [p]) L0 (qs ++ [p]) s4 s5)) := by
        unfold w2_law stE
        rw [← hM]
        simp (disch := first | omega | assumption) only [if_pos, if_neg, decide_eq_true, decide_eq_false, atI_of, cutL_take, cutL_drop, cutL_mid, ge_iff_le, gt_iff_lt, Int.reduceToNat, Int.toNat_zero, Int.toNat_one, Bool.not_true, Bool.not_false, szl, sStuck, fLenS, cGtA, sAppQ, sSetQ, sForT, forTL, opSortT, fDItems, fDKeys, fLcO, D.key, fDNew, fDGet, sDPutV, fDSet, fRg3, fChV, fSortL, frL, frS, fSortB, sRem, sqAt, eIxI, fItm, fItV, chS, sItC, sItA, sItI, sItS, fTmp, Sl.mut, Sl.th, O.d, sqD, D.atm, sTryR, fSq, aConsF, aNilF, eO, sTgF, setFd, Fd.sl, opJoinRev, fLRev, runDef, runDefI, ioAt, insA, chL, getO, setO, getL, setL, obAt, eFd, eFV, eFB, fFld, fMeth, fMethI, fMake, fCallI, aHere, fIsO, sFldS, setF, Rs.fd, Fd.d, O.d, fMethD, chF, sAppF, fPopF, fPop0, fPop1, sIns, sRetI, sRetNI, fZip, fML, opAny, opAll, opSorted, opMaxL, opMinL, opRfind, opCount, List.map_cons, List.map_nil, cInA, cNinA, inD, itD, fItA, eItA, cLtA, cLeA, fRr1, fRr2, opInt, sPar, fCallD, fRaise0, fRaise1, sTryAs, sTry, aftr, noX, allEq_const, fXf, fXi, fLc, lcL, unE, tYs, Vs.ret, xLock, inis, bof, sNil, sSeq, sAsg, sRet, sRetV, sRetN, sIf, sDrop, sTg, sFor, sBrk, sCnt, sApp, sExt, sOwn, sSetI, opSetI, sLock, unlk, sbnd, bnd, fOp, fCh, fCl, fCall, fLst, fTup, fSl, fIf, fAnd, fOr, fNot, fTru, fAndV, fOrV, fNotV, fNeg, fIsi, fM1, fM2, fRg1, fRg2, fEn, fRev, fSg, fTp, fIt, eIt, eB, eV, eC, frz, shm, aCons, aNil, poN, poS, Rs.d, Rs.sl, vB, List.cons_append, List.nil_append, List.append_nil, List.replicate_zero, List.replicate_succ, List.getElem?_cons_zero, List.getElem?_cons_succ, List.set_cons_zero, List.set_cons_succ, List.length_cons, List.length_nil, opLen, lenD, opList, opAdd, opSub, opMul, opMod, opDiv, opPow, opMin, opMax, opIx, opSl, cmpB, cEq, cNe, cIsN, cNotN, truD, tgN, tgT, setAll, isKd, opFind, opFind3, opStarts, opStarts3, Nat.reduceLT, Nat.reduceAdd, Nat.reduceSub, Nat.reduceLeDiff, Int.reduceLT, Int.reduceLE, Int.reduceNeg, reduceIte, and_self, true_and, and_true, decide_true, decide_false, Int.toNat_natCast, decide_eq_true hgt]
      have bod : l2_law (stE ns od (qs ++ [p]) L0 (qs ++ [p]) s4 s5) = some (.nx (stE ns od qs L0 qs s4 s5)) := by
        have hN := cNe_str (ptx p)
        unfold dk at v
        unfold l2_law i6_law stE dk
        rw [← hM]
        unfold cNe cEq at hN
        obtain ⟨V, hV⟩ : ∃ V, V = (qs ++ [p]).map pD := ⟨_, rfl⟩
        rw [← hV] at v ⊢
        simp (disch := first | omega | assumption) only [if_pos, if_neg, decide_eq_true, decide_eq_false, atI_of, cutL_take, cutL_drop, cutL_mid, ge_iff_le, gt_iff_lt, Int.reduceToNat, Int.toNat_zero, Int.toNat_one, Bool.not_true, Bool.not_false, szl, sStuck, fLenS, cGtA, sAppQ, sSetQ, sForT, forTL, opSortT, fDItems, fDKeys, fLcO, D.key, fDNew, fDGet, sDPutV, fDSet, fRg3, fChV, fSortL, frL, frS, fSortB, sRem, sqAt, eIxI, fItm, fItV, chS, sItC, sItA, sItI, sItS, fTmp, Sl.mut, Sl.th, O.d, sqD, D.atm, sTryR, fSq, aConsF, aNilF, eO, sTgF, setFd, Fd.sl, opJoinRev, fLRev, runDef, runDefI, ioAt, insA, chL, getO, setO, getL, setL, obAt, eFd, eFV, eFB, fFld, fMeth, fMethI, fMake, fCallI, aHere, fIsO, sFldS, setF, Rs.fd, Fd.d, O.d, fMethD, chF, sAppF, fPopF, fPop0, fPop1, sIns, sRetI, sRetNI, fZip, fML, opAny, opAll, opSorted, opMaxL, opMinL, opRfind, opCount, List.map_cons, List.map_nil, cInA, cNinA, inD, itD, fItA, eItA, cLtA, cLeA, fRr1, fRr2, opInt, sPar, fCallD, fRaise0, fRaise1, sTryAs, sTry, aftr, noX, allEq_const, fXf, fXi, fLc, lcL, unE, tYs, Vs.ret, xLock, inis, bof, sNil, sSeq, sAsg, sRet, sRetV, sRetN, sIf, sDrop, sTg, sFor, sBrk, sCnt, sApp, sExt, sOwn, sSetI, opSetI, sLock, unlk, sbnd, bnd, fOp, fCh, fCl, fCall, fLst, fTup, fSl, fIf, fAnd, fOr, fNot, fTru, fAndV, fOrV, fNotV, fNeg, fIsi, fM1, fM2, fRg1, fRg2, fEn, fRev, fSg, fTp, fIt, eIt, eB, eV, eC, frz, shm, aCons, aNil, poN, poS, Rs.d, Rs.sl, vB, List.cons_append, List.nil_append, List.append_nil, List.replicate_zero, List.replicate_succ, List.getElem?_cons_zero, List.getElem?_cons_succ, List.set_cons_zero, List.set_cons_succ, List.length_cons, List.length_nil, opLen, lenD, opList, opAdd, opSub, opMul, opMod, opDiv, opPow, opMin, opMax, opIx, opSl, cmpB, cEq, cNe, cIsN, cNotN, truD, tgN, tgT, setAll, isKd, opFind, opFind3, opStarts, opStarts3, Nat.reduceLT, Nat.reduceAdd, Nat.reduceSub, Nat.reduceLeDiff, Int.reduceLT, Int.reduceLE, Int.reduceNeg, reduceIte, and_self, true_and, and_true, decide_true, decide_false, Int.toNat_natCast, v, hat, hd, decide_true, Bool.not_true]
      unfold whL sbnd
      rw [tst]
      dsimp only
      rw [bod]
      exact ih'
theorem law_true : LawTrue g_law := fun ns hn hb => by
  have b0 := cell_bits hb 0
  obtain ⟨L, l1, l2⟩ := e_letters (ns.getD 0 0)
  have c0 := e_cell0 ns
  have v0 := e_tell_lets l2 .non []
  have l6 := l2.2.1
  obtain ⟨w, hw⟩ : ∃ w, w = (ns.drop 1).take 62 := ⟨_, rfl⟩
  have hwb : ∀ z ∈ w, Builtin.Int.intBits z ≤ 1048576 := fun z hz => hb z (List.mem_of_mem_drop (List.mem_of_mem_take (hw ▸ hz)))
  obtain ⟨L', od', ps', s4, s5, f1, f2, f3, f4⟩ := e_fold (ns := ns) w hwb l2 (.len (L := L)) (ps := []) (by simp) (fun x hx => nomatch hx) .un .un
  have f5 := e_down (ns := ns) (L0 := L') f2 s4 s5 _ ps' rfl f3 f4 fuel (lt_fuel (by omega))
  have v9 : g_law_told (dk od' []) [.str [100, 114, 111, 112]] = some (.rt (.sh (.tup [.bl true, .bl false])) (dk od' [])) := lt_ex (e_tell_drop0 f2) (.inr rfl)
  unfold g_law b_law i1_law
  have e0 : rowsD [] = [] := rfl
  unfold stE at f1 f5
  rw [e0] at f1 f5
  unfold dk at v0 v9 f1 f5
  have q1 : (g_Desk_init (.ob 4 []) [] = some (.rt (.sh .non) (.ob 4 [.sh .non, .ow []]))) := by
    unfold g_Desk_init b_Desk_init
    simp (disch := first | omega | assumption) only [if_pos, if_neg, decide_eq_true, decide_eq_false, atI_of, cutL_take, cutL_drop, cutL_mid, ge_iff_le, gt_iff_lt, Int.reduceToNat, Int.toNat_zero, Int.toNat_one, Bool.not_true, Bool.not_false, szl, sStuck, fLenS, cGtA, sAppQ, sSetQ, sForT, forTL, opSortT, fDItems, fDKeys, fLcO, D.key, fDNew, fDGet, sDPutV, fDSet, fRg3, fChV, fSortL, frL, frS, fSortB, sRem, sqAt, eIxI, fItm, fItV, chS, sItC, sItA, sItI, sItS, fTmp, Sl.mut, Sl.th, O.d, sqD, D.atm, sTryR, fSq, aConsF, aNilF, eO, sTgF, setFd, Fd.sl, opJoinRev, fLRev, runDef, runDefI, ioAt, insA, chL, getO, setO, getL, setL, obAt, eFd, eFV, eFB, fFld, fMeth, fMethI, fMake, fCallI, aHere, fIsO, sFldS, setF, Rs.fd, Fd.d, O.d, fMethD, chF, sAppF, fPopF, fPop0, fPop1, sIns, sRetI, sRetNI, fZip, fML, opAny, opAll, opSorted, opMaxL, opMinL, opRfind, opCount, List.map_cons, List.map_nil, cInA, cNinA, inD, itD, fItA, eItA, cLtA, cLeA, fRr1, fRr2, opInt, sPar, fCallD, fRaise0, fRaise1, sTryAs, sTry, aftr, noX, allEq_const, fXf, fXi, fLc, lcL, unE, tYs, Vs.ret, xLock, inis, bof, sNil, sSeq, sAsg, sRet, sRetV, sRetN, sIf, sDrop, sTg, sFor, sBrk, sCnt, sApp, sExt, sOwn, sSetI, opSetI, sLock, unlk, sbnd, bnd, fOp, fCh, fCl, fCall, fLst, fTup, fSl, fIf, fAnd, fOr, fNot, fTru, fAndV, fOrV, fNotV, fNeg, fIsi, fM1, fM2, fRg1, fRg2, fEn, fRev, fSg, fTp, fIt, eIt, eB, eV, eC, frz, shm, aCons, aNil, poN, poS, Rs.d, Rs.sl, vB, List.cons_append, List.nil_append, List.append_nil, List.replicate_zero, List.replicate_succ, List.getElem?_cons_zero, List.getElem?_cons_succ, List.set_cons_zero, List.set_cons_succ, List.length_cons, List.length_nil, opLen, lenD, opList, opAdd, opSub, opMul, opMod, opDiv, opPow, opMin, opMax, opIx, opSl, cmpB, cEq, cNe, cIsN, cNotN, truD, tgN, tgT, setAll, isKd, opFind, opFind3, opStarts, opStarts3, Nat.reduceLT, Nat.reduceAdd, Nat.reduceSub, Nat.reduceLeDiff, Int.reduceLT, Int.reduceLE, Int.reduceNeg, reduceIte, and_self, true_and, and_true, decide_true, decide_false, Int.toNat_natCast, fld_order, fld_pacts]
  unfold lets8 at v0
  simp (disch := first | omega | assumption) only [if_pos, if_neg, decide_eq_true, decide_eq_false, atI_of, cutL_take, cutL_drop, cutL_mid, ge_iff_le, gt_iff_lt, Int.reduceToNat, Int.toNat_zero, Int.toNat_one, Bool.not_true, Bool.not_false, szl, sStuck, fLenS, cGtA, sAppQ, sSetQ, sForT, forTL, opSortT, fDItems, fDKeys, fLcO, D.key, fDNew, fDGet, sDPutV, fDSet, fRg3, fChV, fSortL, frL, frS, fSortB, sRem, sqAt, eIxI, fItm, fItV, chS, sItC, sItA, sItI, sItS, fTmp, Sl.mut, Sl.th, O.d, sqD, D.atm, sTryR, fSq, aConsF, aNilF, eO, sTgF, setFd, Fd.sl, opJoinRev, fLRev, runDef, runDefI, ioAt, insA, chL, getO, setO, getL, setL, obAt, eFd, eFV, eFB, fFld, fMeth, fMethI, fMake, fCallI, aHere, fIsO, sFldS, setF, Rs.fd, Fd.d, O.d, fMethD, chF, sAppF, fPopF, fPop0, fPop1, sIns, sRetI, sRetNI, fZip, fML, opAny, opAll, opSorted, opMaxL, opMinL, opRfind, opCount, List.map_cons, List.map_nil, cInA, cNinA, inD, itD, fItA, eItA, cLtA, cLeA, fRr1, fRr2, opInt, sPar, fCallD, fRaise0, fRaise1, sTryAs, sTry, aftr, noX, allEq_const, fXf, fXi, fLc, lcL, unE, tYs, Vs.ret, xLock, inis, bof, sNil, sSeq, sAsg, sRet, sRetV, sRetN, sIf, sDrop, sTg, sFor, sBrk, sCnt, sApp, sExt, sOwn, sSetI, opSetI, sLock, unlk, sbnd, bnd, fOp, fCh, fCl, fCall, fLst, fTup, fSl, fIf, fAnd, fOr, fNot, fTru, fAndV, fOrV, fNotV, fNeg, fIsi, fM1, fM2, fRg1, fRg2, fEn, fRev, fSg, fTp, fIt, eIt, eB, eV, eC, frz, shm, aCons, aNil, poN, poS, Rs.d, Rs.sl, vB, List.cons_append, List.nil_append, List.append_nil, List.replicate_zero, List.replicate_succ, List.getElem?_cons_zero, List.getElem?_cons_succ, List.set_cons_zero, List.set_cons_succ, List.length_cons, List.length_nil, opLen, lenD, opList, opAdd, opSub, opMul, opMod, opDiv, opPow, opMin, opMax, opIx, opSl, cmpB, cEq, cNe, cIsN, cNotN, truD, tgN, tgT, setAll, isKd, opFind, opFind3, opStarts, opStarts3, Nat.reduceLT, Nat.reduceAdd, Nat.reduceSub, Nat.reduceLeDiff, Int.reduceLT, Int.reduceLE, Int.reduceNeg, reduceIte, and_self, true_and, and_true, decide_true, decide_false, Int.toNat_natCast] at v0
  simp only [List.map_nil] at f1 f5 v9
  rw [hw] at f1
  have z1 : (D.tup [.bl true, .bl false]).okE = true := by decide
  have z2 : (D.tup [.bl true, .bl false]).toP.eqv (D.tup [.bl true, .bl false]).toP = true := by decide
  simp (disch := first | omega | assumption) only [if_pos, if_neg, decide_eq_true, decide_eq_false, atI_of, cutL_take, cutL_drop, cutL_mid, ge_iff_le, gt_iff_lt, Int.reduceToNat, Int.toNat_zero, Int.toNat_one, Bool.not_true, Bool.not_false, szl, sStuck, fLenS, cGtA, sAppQ, sSetQ, sForT, forTL, opSortT, fDItems, fDKeys, fLcO, D.key, fDNew, fDGet, sDPutV, fDSet, fRg3, fChV, fSortL, frL, frS, fSortB, sRem, sqAt, eIxI, fItm, fItV, chS, sItC, sItA, sItI, sItS, fTmp, Sl.mut, Sl.th, O.d, sqD, D.atm, sTryR, fSq, aConsF, aNilF, eO, sTgF, setFd, Fd.sl, opJoinRev, fLRev, runDef, runDefI, ioAt, insA, chL, getO, setO, getL, setL, obAt, eFd, eFV, eFB, fFld, fMeth, fMethI, fMake, fCallI, aHere, fIsO, sFldS, setF, Rs.fd, Fd.d, O.d, fMethD, chF, sAppF, fPopF, fPop0, fPop1, sIns, sRetI, sRetNI, fZip, fML, opAny, opAll, opSorted, opMaxL, opMinL, opRfind, opCount, List.map_cons, List.map_nil, cInA, cNinA, inD, itD, fItA, eItA, cLtA, cLeA, fRr1, fRr2, opInt, sPar, fCallD, fRaise0, fRaise1, sTryAs, sTry, aftr, noX, allEq_const, fXf, fXi, fLc, lcL, unE, tYs, Vs.ret, xLock, inis, bof, sNil, sSeq, sAsg, sRet, sRetV, sRetN, sIf, sDrop, sTg, sFor, sBrk, sCnt, sApp, sExt, sOwn, sSetI, opSetI, sLock, unlk, sbnd, bnd, fOp, fCh, fCl, fCall, fLst, fTup, fSl, fIf, fAnd, fOr, fNot, fTru, fAndV, fOrV, fNotV, fNeg, fIsi, fM1, fM2, fRg1, fRg2, fEn, fRev, fSg, fTp, fIt, eIt, eB, eV, eC, frz, shm, aCons, aNil, poN, poS, Rs.d, Rs.sl, vB, List.cons_append, List.nil_append, List.append_nil, List.replicate_zero, List.replicate_succ, List.getElem?_cons_zero, List.getElem?_cons_succ, List.set_cons_zero, List.set_cons_succ, List.length_cons, List.length_nil, opLen, lenD, opList, opAdd, opSub, opMul, opMod, opDiv, opPow, opMin, opMax, opIx, opSl, cmpB, cEq, cNe, cIsN, cNotN, truD, tgN, tgT, setAll, isKd, opFind, opFind3, opStarts, opStarts3, Nat.reduceLT, Nat.reduceAdd, Nat.reduceSub, Nat.reduceLeDiff, Int.reduceLT, Int.reduceLE, Int.reduceNeg, reduceIte, and_self, true_and, and_true, decide_true, decide_false, Int.toNat_natCast, q1, c0, l1, v0, f1, f5, v9, z1, z2]

end Lw


set_option Elab.async false
set_option linter.all false
set_option maxRecDepth 100000
set_option maxHeartbeats 4000000
namespace Lw
open PySem L2 Vs
def topS (i : Nat) : Stmt := PySem.Challenge.pw_letterlaw_k91_rows.main.body.getD i (.Pass ⟨0, 0, 0, 0⟩)
structure Txt (κ : Kx) (mg : Str → Option Value) : Prop where
  xf : κ.xf = xf
  g_LetterError : mg "LetterError" = some (.ref (κ.xc 0))
  g_NoLetters : mg "NoLetters" = some (.ref (κ.xc 1))
  g_NoWord : mg "NoWord" = some (.ref (κ.xc 2))
  g_NoPact : mg "NoPact" = some (.ref (κ.xc 3))
  g_NoOrder : mg "NoOrder" = some (.ref (κ.xc 4))
  g_NoUse : mg "NoUse" = some (.ref (κ.xc 5))
  g_NotTurned : mg "NotTurned" = some (.ref (κ.xc 6))
  g_TooFar : mg "TooFar" = some (.ref (κ.xc 7))
  g_TooMany : mg "TooMany" = some (.ref (κ.xc 8))
  g_NoRow : mg "NoRow" = some (.ref (κ.xc 9))
  e_NoLetters : PySem.W.excIn κ.K (κ.xc 1) veB "ValueError.__new__" = true
  k_NoLetters : PySem.W.keepIn κ.K (.ref (κ.xc 1)) = true
  b_NoLetters : PySem.W.subIn κ.K (.ref (κ.xc 1)) (.type "BaseException") = some true
  t_NoLetters : PySem.W.typeIn κ.K (.ref (κ.xc 1)) = some (.type "type")
  e_NoOrder : PySem.W.excIn κ.K (κ.xc 4) veB "ValueError.__new__" = true
  k_NoOrder : PySem.W.keepIn κ.K (.ref (κ.xc 4)) = true
  b_NoOrder : PySem.W.subIn κ.K (.ref (κ.xc 4)) (.type "BaseException") = some true
  t_NoOrder : PySem.W.typeIn κ.K (.ref (κ.xc 4)) = some (.type "type")
  e_NoRow : PySem.W.excIn κ.K (κ.xc 9) veB "ValueError.__new__" = true
  k_NoRow : PySem.W.keepIn κ.K (.ref (κ.xc 9)) = true
  b_NoRow : PySem.W.subIn κ.K (.ref (κ.xc 9)) (.type "BaseException") = some true
  t_NoRow : PySem.W.typeIn κ.K (.ref (κ.xc 9)) = some (.type "type")
  l_NoWord : ∃ fI, PySem.LowX_NoWord.LowTxt κ.K mg (κ.xc 2) fI
  e_NoPact : PySem.W.excIn κ.K (κ.xc 3) veB "ValueError.__new__" = true
  k_NoPact : PySem.W.keepIn κ.K (.ref (κ.xc 3)) = true
  b_NoPact : PySem.W.subIn κ.K (.ref (κ.xc 3)) (.type "BaseException") = some true
  t_NoPact : PySem.W.typeIn κ.K (.ref (κ.xc 3)) = some (.type "type")
  e_TooMany : PySem.W.excIn κ.K (κ.xc 8) veB "ValueError.__new__" = true
  k_TooMany : PySem.W.keepIn κ.K (.ref (κ.xc 8)) = true
  b_TooMany : PySem.W.subIn κ.K (.ref (κ.xc 8)) (.type "BaseException") = some true
  t_TooMany : PySem.W.typeIn κ.K (.ref (κ.xc 8)) = some (.type "type")
  x_LetterError : XsOk κ xs 0
  isB : IsB κ.K
  i_TooMany : KsOk κ [.ref (κ.xc 8)] (fun c => ks c 8)
  i_NoRow : KsOk κ [.ref (κ.xc 9)] (fun c => ks c 9)
  i_NoOrder : KsOk κ [.ref (κ.xc 4)] (fun c => ks c 4)
  i_NoWord : KsOk κ [.ref (κ.xc 2)] (fun c => ks c 2)
  p_NoOrder_NoWord : KsOk κ [.ref (κ.xc 4), .ref (κ.xc 2)] (fun c => ks c 2202)
  fld_order : FldOk κ "order" fld_order
  fld_pacts : FldOk κ "pacts" fld_pacts
  fld_letters : FldOk κ "letters" fld_letters
  fld_weights : FldOk κ "weights" fld_weights
  ci_Order : ∃ (f : Addr) (fd : FuncData) (mc : Value), mg "Order" = some (.ref (κ.cl 1)) ∧ ClX.CRead κ.K (κ.cl 1) mc ∧ PySem.W.findCls κ.K (.ref (κ.cl 1)) mc "__init__" = some (.val (.ref f)) ∧ PySem.W.keepIn κ.K (.ref f) = true ∧ Fun κ.K "__init__" "Order.__init__" (inClass (topS 77) 0) f fd
  m_4_drop_row : ∃ (f : Addr) (fd : FuncData), Fun κ.K "drop_row" "Desk.drop_row" (inClass (topS 93) 5) f fd ∧ L2.Cls κ.K (κ.cl 4) ∧ L2.Meth κ.K (κ.cl 4) "drop_row" f ∧ ("drop_row" : Str) ∉ κ.fl 4
  m_4_letters_row : ∃ (f : Addr) (fd : FuncData), Fun κ.K "letters_row" "Desk.letters_row" (inClass (topS 93) 2) f fd ∧ L2.Cls κ.K (κ.cl 4) ∧ L2.Meth κ.K (κ.cl 4) "letters_row" f ∧ ("letters_row" : Str) ∉ κ.fl 4
  m_4_order_row : ∃ (f : Addr) (fd : FuncData), Fun κ.K "order_row" "Desk.order_row" (inClass (topS 93) 3) f fd ∧ L2.Cls κ.K (κ.cl 4) ∧ L2.Meth κ.K (κ.cl 4) "order_row" f ∧ ("order_row" : Str) ∉ κ.fl 4
  m_4_pact_row : ∃ (f : Addr) (fd : FuncData), Fun κ.K "pact_row" "Desk.pact_row" (inClass (topS 93) 4) f fd ∧ L2.Cls κ.K (κ.cl 4) ∧ L2.Meth κ.K (κ.cl 4) "pact_row" f ∧ ("pact_row" : Str) ∉ κ.fl 4
  m_4_told : ∃ (f : Addr) (fd : FuncData), Fun κ.K "told" "Desk.told" (inClass (topS 93) 1) f fd ∧ L2.Cls κ.K (κ.cl 4) ∧ L2.Meth κ.K (κ.cl 4) "told" f ∧ ("told" : Str) ∉ κ.fl 4
  mk_ByWeights : ∃ (f : Addr) (fd : FuncData), mg "ByWeights" = some (.ref (κ.cl 3)) ∧ L2.Mk κ.K (κ.cl 3) f ∧ Fun κ.K "__init__" "ByWeights.__init__" (inClass (topS 79) 0) f fd
  mk_Desk : ∃ (f : Addr) (fd : FuncData), mg "Desk" = some (.ref (κ.cl 4)) ∧ L2.Mk κ.K (κ.cl 4) f ∧ Fun κ.K "__init__" "Desk.__init__" (inClass (topS 93) 0) f fd
  mk_FromRight : ∃ (f : Addr) (fd : FuncData), mg "FromRight" = some (.ref (κ.cl 2)) ∧ L2.Mk κ.K (κ.cl 2) f ∧ Fun κ.K "__init__" "Order.__init__" (inClass (topS 77) 0) f fd
  mk_Order : ∃ (f : Addr) (fd : FuncData), mg "Order" = some (.ref (κ.cl 1)) ∧ L2.Mk κ.K (κ.cl 1) f ∧ Fun κ.K "__init__" "Order.__init__" (inClass (topS 77) 0) f fd
  d_law_letters : ∃ (f : Addr) (fd : FuncData), Fun κ.K "_law_letters" "_law_letters" (topS 96) f fd ∧ mg "_law_letters" = some (.ref f)
  d_law_cell_at : ∃ (f : Addr) (fd : FuncData), Fun κ.K "_law_cell_at" "_law_cell_at" (topS 95) f fd ∧ mg "_law_cell_at" = some (.ref f)
  d_letters_of : ∃ (f : Addr) (fd : FuncData), Fun κ.K "letters_of" "letters_of" (topS 14) f fd ∧ mg "letters_of" = some (.ref f)
  d_weight_of : ∃ (f : Addr) (fd : FuncData), Fun κ.K "weight_of" "weight_of" (topS 88) f fd ∧ mg "weight_of" = some (.ref f)
  d_word_of : ∃ (f : Addr) (fd : FuncData), FunD κ.K "word_of" "word_of" (defArgs (topS 15)) (defBody (topS 15)) (defScope (topS 15)) [V.int 60] [] f fd ∧ mg "word_of" = some (.ref f)
  d_read_word : ∃ (f : Addr) (fd : FuncData), FunD κ.K "read_word" "read_word" (defArgs (topS 74)) (defBody (topS 74)) (defScope (topS 74)) [V.int 60] [] f fd ∧ mg "read_word" = some (.ref f)
  d_read_pact : ∃ (f : Addr) (fd : FuncData), FunD κ.K "read_pact" "read_pact" (defArgs (topS 75)) (defBody (topS 75)) (defScope (topS 75)) [V.int 60] [] f fd ∧ mg "read_pact" = some (.ref f)
  d_shown_word : ∃ (f : Addr) (fd : FuncData), Fun κ.K "shown_word" "shown_word" (topS 69) f fd ∧ mg "shown_word" = some (.ref f)
  d_shown_pact : ∃ (f : Addr) (fd : FuncData), Fun κ.K "shown_pact" "shown_pact" (topS 70) f fd ∧ mg "shown_pact" = some (.ref f)
  d_shown_step : ∃ (f : Addr) (fd : FuncData), Fun κ.K "shown_step" "shown_step" (topS 71) f fd ∧ mg "shown_step" = some (.ref f)
  d_shown_steps : ∃ (f : Addr) (fd : FuncData), Fun κ.K "shown_steps" "shown_steps" (topS 72) f fd ∧ mg "shown_steps" = some (.ref f)
  d_shown_entry : ∃ (f : Addr) (fd : FuncData), Fun κ.K "shown_entry" "shown_entry" (topS 73) f fd ∧ mg "shown_entry" = some (.ref f)
  d_shown_entries : ∃ (f : Addr) (fd : FuncData), Fun κ.K "shown_entries" "shown_entries" (topS 90) f fd ∧ mg "shown_entries" = some (.ref f)
  d_law_mixed : ∃ (f : Addr) (fd : FuncData), Fun κ.K "_law_mixed" "_law_mixed" (topS 99) f fd ∧ mg "_law_mixed" = some (.ref f)
  d_law_word : ∃ (f : Addr) (fd : FuncData), Fun κ.K "_law_word" "_law_word" (topS 97) f fd ∧ mg "_law_word" = some (.ref f)
  d_law_pact : ∃ (f : Addr) (fd : FuncData), Fun κ.K "_law_pact" "_law_pact" (topS 98) f fd ∧ mg "_law_pact" = some (.ref f)
  d_law_shown : ∃ (f : Addr) (fd : FuncData), Fun κ.K "_law_shown" "_law_shown" (topS 100) f fd ∧ mg "_law_shown" = some (.ref f)
  d_law_row : ∃ (f : Addr) (fd : FuncData), Fun κ.K "_law_row" "_law_row" (topS 102) f fd ∧ mg "_law_row" = some (.ref f)
  d_law_told : ∃ (f : Addr) (fd : FuncData), Fun κ.K "_law_told" "_law_told" (topS 101) f fd ∧ mg "_law_told" = some (.ref f)
  d_law_due : ∃ (f : Addr) (fd : FuncData), Fun κ.K "_law_due" "_law_due" (topS 103) f fd ∧ mg "_law_due" = some (.ref f)
  d_law : ∃ (f : Addr) (fd : FuncData), Fun κ.K "law" "law" (topS 104) f fd ∧ mg "law" = some (.ref f)
  z_range : mg "range" = none
  z_len : mg "len" = none
  m_SMALL : ∃ t, mg "SMALL" = some (.str (S c_SMALL) t)
  m_FIGURES : ∃ t, mg "FIGURES" = some (.str (S c_FIGURES) t)
  z_int : mg "int" = none
  z_list : mg "list" = none
  m_MOST_SIDE : ∃ t, mg "MOST_SIDE" = some (.int 10 t)
  m_MOST_PACTS : ∃ t, mg "MOST_PACTS" = some (.int 8 t)
  z_str : mg "str" = none
  z_isinstance : mg "isinstance" = none
section
variable {P : Program} {w : World} {κ : Kx} {mg : Str → Option Value} {base : Heap}
abbrev s_Desk_init : Stmt := inClass (topS 93) 0
theorem sc_Desk_init : FnScope ["self"] ["self"] (defScope s_Desk_init) := ⟨rfl, rfl, rfl, by decide +kernel, rfl, by decide +kernel, by decide +kernel⟩
theorem fn_Desk_init {f : Addr} {fd : FuncData} (F : Fun κ.K "__init__" "Desk.__init__" s_Desk_init f fd) (T : Txt κ mg) : FnOk P w κ.K mg base (L2.CX P w) 1 f fd ["self"] (spI κ 0 [] g_Desk_init) := by
  have sc := sc_Desk_init
  refine F.okX sc (fun vs H Q E h => spI_len h) fun cdv A outer s H vs Q E hr h => ⟨tS κ (fun c d _ H' => E c d H') b_Desk_init, ?_, v_endI (k := 0) rfl h⟩
  have tk : Takes (cxOf (L2.CX P w) P w κ.K mg base ["self"] "Desk.__init__" (defScope s_Desk_init) f cdv A outer s H E) (fun c d _ H' => E c d H') := takes_of rfl rfl rfl rfl
  have hp := passes_of (X := cxOf (L2.CX P w) P w κ.K mg base ["self"] "Desk.__init__" (defScope s_Desk_init) f cdv A outer s H E) rfl
  exact s_cons (s_fld (i := 0) T.fld_order rfl (pv 0) (i_sh (im (v_non)))) (s_one (s_fld (i := 0) T.fld_pacts rfl (pv 0) (im (v_lst (ms := []) rfl (a_nil)))))
theorem okN_Desk (T : Txt κ mg) : VMk P w κ mg base "Desk" 4 1 [] g_Desk_init := by
  obtain ⟨f, fd, hm, M, F⟩ := T.mk_Desk
  exact ⟨f, fd, ["self"], hm, M, fn_Desk_init F T, F.binds (ps := ["self"]) fun _ _ _ _ _ _ us hl => match us, hl with | [_], _ => rfl⟩
abbrev s_law_letters : Stmt := topS 96
theorem sc_law_letters : FnScope ["_law_cell", "_law_most", "_law_alphabet", "_law_many", "_law_start", "_law_apart", "_law_k"] ["_law_cell", "_law_most"] (defScope s_law_letters) := ⟨rfl, rfl, rfl, by decide +kernel, rfl, by decide +kernel, by decide +kernel⟩
theorem fn_law_letters {f : Addr} {fd : FuncData} (F : Fun κ.K "_law_letters" "_law_letters" s_law_letters f fd) (T : Txt κ mg) : FnOk P w κ.K mg base (L2.CX P w) 1 f fd ["_law_cell", "_law_most"] (spV κ [true, true] g_law_letters) := by
  have sc := sc_law_letters
  refine F.okX sc (fun vs H Q E h => spV_len h) fun cdv A outer s H vs Q E hr h => ⟨tS κ (fun c d _ H' => E c d H') b_law_letters, ?_, v_end (k := 5) rfl h⟩
  have tk : Takes (cxOf (L2.CX P w) P w κ.K mg base ["_law_cell", "_law_most", "_law_alphabet", "_law_many", "_law_start", "_law_apart", "_law_k"] "_law_letters" (defScope s_law_letters) f cdv A outer s H E) (fun c d _ H' => E c d H') := takes_of rfl rfl rfl rfl
  have hp := passes_of (X := cxOf (L2.CX P w) P w κ.K mg base ["_law_cell", "_law_most", "_law_alphabet", "_law_many", "_law_start", "_law_apart", "_law_k"] "_law_letters" (defScope s_law_letters) f cdv A outer s H E) rfl
  exact s_cons (s_asg (i := 2) sc.nd rfl (by first | exact Or.inl rfl | exact Or.inr rfl) (v_sh (v_str (by rfl)))) (s_cons (s_asg (i := 3) sc.nd rfl (by first | exact Or.inl rfl | exact Or.inr rfl) (v_op o_add s_add (v_bo (v_int)) (v_bo (v_frz (v_op op_mod s_mod (b_var (pv 0)) (b_var (pv 1))))))) (s_cons (s_asg (i := 4) sc.nd rfl (by first | exact Or.inl rfl | exact Or.inr rfl) (v_op op_mod s_mod (v_bo (v_frz (v_op op_fdivW s_div (b_var (pv 0)) (b_var (pv 1))))) (v_bo (v_int)))) (s_cons (s_asg (i := 5) sc.nd rfl (by first | exact Or.inl rfl | exact Or.inr rfl) (v_op o_add s_add (v_bo (v_int)) (v_bo (v_frz (v_op o_mul s_mul (v_bo (v_int)) (v_bo (v_frz (v_op op_mod s_mod (v_bo (v_frz (v_op op_fdivW s_div (b_var (pv 0)) (v_bo (v_int))))) (v_bo (v_int)))))))))) (s_one (s_ret (v_join (v_bo (v_str (by rfl))) (v_bo (v_frz (v_lc (own := [("_law_k", 6)]) (vs := [6]) rfl sc.nd rfl (i_rg1 rfl rfl T.z_range (a_bo (b_var (pv 3)) (a_nil))) (blkOk_by (own := [("_law_k", 6)]) (N := ["_law_cell", "_law_most", "_law_alphabet", "_law_many", "_law_start", "_law_apart", "_law_k"]) (sc := defScope s_law_letters) (by decide +kernel)) (fun _ _ _ _ _ => pg_name (i := 6) sc.nd rfl (by first | exact Or.inl rfl | exact Or.inr rfl)) (to_name 6 rfl) (fun _ _ _ _ _ => pts_yes) (fun _ _ _ _ _ => v_ix rfl (b_var (pv 2)) (v_bo (v_frz (v_op op_mod s_mod (v_bo (v_frz (v_op o_add s_add (b_var (pv 4)) (v_bo (v_frz (v_op o_mul s_mul (b_var (pv 5)) (b_var (pv 6)))))))) (v_bo (v_int))))) (fun _ _ => rfl)))))))))))
theorem ok_law_letters (T : Txt κ mg) : VFn P w κ mg base "_law_letters" 1 [true, true] g_law_letters := by
  obtain ⟨f, fd, F, hm⟩ := T.d_law_letters
  exact ⟨f, fd, ["_law_cell", "_law_most"], hm, F.kp, fn_law_letters F T, F.binds (ps := ["_law_cell", "_law_most"]) fun _ _ _ _ _ _ us hl => match us, hl with | [_, _], _ => rfl⟩
abbrev s_law_cell_at : Stmt := topS 95
theorem sc_law_cell_at : FnScope ["_law_script", "_law_k"] ["_law_script", "_law_k"] (defScope s_law_cell_at) := ⟨rfl, rfl, rfl, by decide +kernel, rfl, by decide +kernel, by decide +kernel⟩
theorem fn_law_cell_at {f : Addr} {fd : FuncData} (F : Fun κ.K "_law_cell_at" "_law_cell_at" s_law_cell_at f fd) (T : Txt κ mg) : FnOk P w κ.K mg base (L2.CX P w) 1 f fd ["_law_script", "_law_k"] (spV κ [true, true] g_law_cell_at) := by
  have sc := sc_law_cell_at
  refine F.okX sc (fun vs H Q E h => spV_len h) fun cdv A outer s H vs Q E hr h => ⟨tS κ (fun c d _ H' => E c d H') b_law_cell_at, ?_, v_end (k := 0) rfl h⟩
  have tk : Takes (cxOf (L2.CX P w) P w κ.K mg base ["_law_script", "_law_k"] "_law_cell_at" (defScope s_law_cell_at) f cdv A outer s H E) (fun c d _ H' => E c d H') := takes_of rfl rfl rfl rfl
  have hp := passes_of (X := cxOf (L2.CX P w) P w κ.K mg base ["_law_script", "_law_k"] "_law_cell_at" (defScope s_law_cell_at) f cdv A outer s H E) rfl
  exact s_cons (s_if (t_cmp (o_ltA rfl hr.units) s_ltA (b_var (pv 1)) (v_bo (v_frz (v_callB call_len s_len rfl T.z_len PySem.boot_len (a_bo (b_var (pv 0)) (a_nil))))) (nomark _)) (s_one (s_ret (v_sh (v_ix rfl (b_var (pv 0)) (b_var (pv 1)) (fun _ _ => rfl))))) (s_nil)) (s_one (s_ret (v_sh (v_int))))
theorem ok_law_cell_at (T : Txt κ mg) : VFn P w κ mg base "_law_cell_at" 1 [true, true] g_law_cell_at := by
  obtain ⟨f, fd, F, hm⟩ := T.d_law_cell_at
  exact ⟨f, fd, ["_law_script", "_law_k"], hm, F.kp, fn_law_cell_at F T, F.binds (ps := ["_law_script", "_law_k"]) fun _ _ _ _ _ _ us hl => match us, hl with | [_, _], _ => rfl⟩
abbrev s_letters_of : Stmt := topS 14
theorem sc_letters_of : FnScope ["text", "k"] ["text"] (defScope s_letters_of) := ⟨rfl, rfl, rfl, by decide +kernel, rfl, by decide +kernel, by decide +kernel⟩
theorem fn_letters_of {f : Addr} {fd : FuncData} (F : Fun κ.K "letters_of" "letters_of" s_letters_of f fd) (T : Txt κ mg) : FnOk P w κ.K mg base (L2.CX P w) 1 f fd ["text"] (spV κ [false] g_letters_of) := by
  have sc := sc_letters_of
  refine F.okX sc (fun vs H Q E h => spV_len h) fun cdv A outer s H vs Q E hr h => ⟨tS κ (fun c d _ H' => E c d H') b_letters_of, ?_, v_end (k := 1) rfl h⟩
  have tk : Takes (cxOf (L2.CX P w) P w κ.K mg base ["text", "k"] "letters_of" (defScope s_letters_of) f cdv A outer s H E) (fun c d _ H' => E c d H') := takes_of rfl rfl rfl rfl
  have hp := passes_of (X := cxOf (L2.CX P w) P w κ.K mg base ["text", "k"] "letters_of" (defScope s_letters_of) f cdv A outer s H E) rfl
  exact s_cons (s_if (PW.pt (w_or (t_cmp (o_ltA rfl hr.units) s_ltA (v_bo (v_frz (v_callB call_len s_len rfl T.z_len PySem.boot_len (a_bo (b_var (pv 0)) (a_nil))))) (v_bo (v_int)) (nomark _)) (w_or1 (t_cmp o_gt s_cm (v_bo (v_frz (v_callB call_len s_len rfl T.z_len PySem.boot_len (a_bo (b_var (pv 0)) (a_nil))))) (v_bo (v_int)) (nomark _))))) (s_one (s_raise0 (c := 1) rfl rfl (congrFun T.xf 1) tk T.g_NoLetters T.e_NoLetters T.k_NoLetters T.b_NoLetters T.t_NoLetters rfl)) (s_nil)) (s_cons (s_for hp rfl (i_rg1 rfl rfl T.z_range (a_bo (v_bo (v_frz (v_callB call_len s_len rfl T.z_len PySem.boot_len (a_bo (b_var (pv 0)) (a_nil))))) (a_nil))) (pg_name (i := 1) sc.nd rfl (by first | exact Or.inl rfl | exact Or.inr rfl)) (tg_name 1) (s_one (s_if (PW.pt (w_or (t_cmp (o_ninA rfl (units65 hr)) s_ninA (v_bo (v_ix rfl (b_var (pv 0)) (b_var (pv 1)) (fun _ _ => rfl))) (v_bo (v_const (pe_glob (v := .str (S c_SMALL)) rfl T.m_SMALL.choose_spec ⟨_, rfl⟩) (fun _ => .str _))) (by rfl)) (w_or1 (t_cmp (o_inA rfl (units65 hr)) s_inA (v_bo (v_ix rfl (b_var (pv 0)) (b_var (pv 1)) (fun _ _ => rfl))) (v_bo (v_frz (v_sl rfl (b_var (pv 0)) (o_none) (o_some (b_var (pv 1)))))) (by rfl))))) (s_one (s_raise0 (c := 1) rfl rfl (congrFun T.xf 1) tk T.g_NoLetters T.e_NoLetters T.k_NoLetters T.b_NoLetters T.t_NoLetters rfl)) (s_nil)))) (s_one (s_retV (pv 0))))
theorem ok_letters_of (T : Txt κ mg) : VFn P w κ mg base "letters_of" 1 [false] g_letters_of := by
  obtain ⟨f, fd, F, hm⟩ := T.d_letters_of
  exact ⟨f, fd, ["text"], hm, F.kp, fn_letters_of F T, F.binds (ps := ["text"]) fun _ _ _ _ _ _ us hl => match us, hl with | [_], _ => rfl⟩
abbrev s_Order_init : Stmt := inClass (topS 77) 0
theorem sc_Order_init : FnScope ["self", "letters"] ["self", "letters"] (defScope s_Order_init) := ⟨rfl, rfl, rfl, by decide +kernel, rfl, by decide +kernel, by decide +kernel⟩
theorem fn_Order_init {f : Addr} {fd : FuncData} (F : Fun κ.K "__init__" "Order.__init__" s_Order_init f fd) (T : Txt κ mg) (K_letters_of : VFn P w κ mg base "letters_of" 1 [false] g_letters_of) : FnOk P w κ.K mg base (L2.CX P w) 2 f fd ["self", "letters"] (spI κ 0 [false] g_Order_init) := by
  have sc := sc_Order_init
  refine F.okX sc (fun vs H Q E h => spI_len h) fun cdv A outer s H vs Q E hr h => ⟨tS κ (fun c d _ H' => E c d H') b_Order_init, ?_, v_endI (k := 0) rfl h⟩
  have tk : Takes (cxOf (L2.CX P w) P w κ.K mg base ["self", "letters"] "Order.__init__" (defScope s_Order_init) f cdv A outer s H E) (fun c d _ H' => E c d H') := takes_of rfl rfl rfl rfl
  have hp := passes_of (X := cxOf (L2.CX P w) P w κ.K mg base ["self", "letters"] "Order.__init__" (defScope s_Order_init) f cdv A outer s H E) rfl
  exact s_one (s_fld (i := 0) T.fld_letters rfl (pv 0) (i_sh (im (v_frz (v_call K_letters_of rfl (hr.mono (by decide)) tk rfl (a_sh (v_var (pv 1)) (a_nil)))))))
theorem okN_Order (T : Txt κ mg) (K_letters_of : VFn P w κ mg base "letters_of" 1 [false] g_letters_of) : VMk P w κ mg base "Order" 1 2 [false] g_Order_init := by
  obtain ⟨f, fd, hm, M, F⟩ := T.mk_Order
  exact ⟨f, fd, ["self", "letters"], hm, M, fn_Order_init F T K_letters_of, F.binds (ps := ["self", "letters"]) fun _ _ _ _ _ _ us hl => match us, hl with | [_, _], _ => rfl⟩
theorem okB_Order (T : Txt κ mg) (K_letters_of : VFn P w κ mg base "letters_of" 1 [false] g_letters_of) : VCi P w κ mg base "Order" 1 "__init__" 2 [false] g_Order_init := by
  obtain ⟨f, fd, mc, hm, h1, h2, h3, F⟩ := T.ci_Order
  exact ⟨f, fd, ["self", "letters"], mc, hm, h1, h2, h3, fn_Order_init F T K_letters_of, F.binds (ps := ["self", "letters"]) fun _ _ _ _ _ _ us hl => match us, hl with | [_, _], _ => rfl⟩
theorem okN_FromRight (T : Txt κ mg) (K_letters_of : VFn P w κ mg base "letters_of" 1 [false] g_letters_of) : VMk P w κ mg base "FromRight" 2 2 [false] g_Order_init := by
  obtain ⟨f, fd, hm, M, F⟩ := T.mk_FromRight
  exact ⟨f, fd, ["self", "letters"], hm, M, fn_Order_init F T K_letters_of, F.binds (ps := ["self", "letters"]) fun _ _ _ _ _ _ us hl => match us, hl with | [_, _], _ => rfl⟩
abbrev s_Desk_letters_row : Stmt := inClass (topS 93) 2
theorem sc_Desk_letters_row : FnScope ["self", "row"] ["self", "row"] (defScope s_Desk_letters_row) := ⟨rfl, rfl, rfl, by decide +kernel, rfl, by decide +kernel, by decide +kernel⟩
theorem fn_Desk_letters_row {f : Addr} {fd : FuncData} (F : Fun κ.K "letters_row" "Desk.letters_row" s_Desk_letters_row f fd) (T : Txt κ mg) (N_Order : VMk P w κ mg base "Order" 1 2 [false] g_Order_init) (K_letters_of : VFn P w κ mg base "letters_of" 1 [false] g_letters_of) : FnOk P w κ.K mg base (L2.CX P w) 4 f fd ["self", "row"] (spI κ 0 [false] g_Desk_letters_row) := by
  have sc := sc_Desk_letters_row
  refine F.okX sc (fun vs H Q E h => spI_len h) fun cdv A outer s H vs Q E hr h => ⟨tS κ (fun c d _ H' => E c d H') b_Desk_letters_row, ?_, v_endI (k := 0) rfl h⟩
  have tk : Takes (cxOf (L2.CX P w) P w κ.K mg base ["self", "row"] "Desk.letters_row" (defScope s_Desk_letters_row) f cdv A outer s H E) (fun c d _ H' => E c d H') := takes_of rfl rfl rfl rfl
  have hp := passes_of (X := cxOf (L2.CX P w) P w κ.K mg base ["self", "row"] "Desk.letters_row" (defScope s_Desk_letters_row) f cdv A outer s H E) rfl
  exact s_cons (s_fld (i := 0) T.fld_order rfl (pv 0) (i_sh (im (v_frz (v_sh (v_frz (v_make (ms := [false]) N_Order rfl (hr.mono (by decide)) tk rfl (a_sh (v_frz (v_call K_letters_of rfl (hr.mono (by decide)) tk rfl (a_sh (v_frz (v_sl rfl (b_var (pv 1)) (o_some (v_bo (v_int))) (o_none))) (a_nil)))) (a_nil))))))))) (s_cons (s_fld (i := 0) T.fld_pacts rfl (pv 0) (im (v_lst (ms := []) rfl (a_nil)))) (s_one (s_retI (im (v_sh (v_var (pv 1)))))))
theorem okI_letters_row (T : Txt κ mg) (N_Order : VMk P w κ mg base "Order" 1 2 [false] g_Order_init) (K_letters_of : VFn P w κ mg base "letters_of" 1 [false] g_letters_of) : VMtI P w κ mg base 4 "letters_row" 4 [false] g_Desk_letters_row := by
  obtain ⟨f, fd, F, h1, h2, h3⟩ := T.m_4_letters_row
  exact ⟨f, fd, ["self", "row"], h1, h2, h3, fn_Desk_letters_row F T N_Order K_letters_of, F.binds (ps := ["self", "row"]) fun _ _ _ _ _ _ us hl => match us, hl with | [_, _], _ => rfl⟩
abbrev s_weight_of : Stmt := topS 88
theorem sc_weight_of : FnScope ["figures", "sign"] ["figures"] (defScope s_weight_of) := ⟨rfl, rfl, rfl, by decide +kernel, rfl, by decide +kernel, by decide +kernel⟩
theorem fn_weight_of {f : Addr} {fd : FuncData} (F : Fun κ.K "weight_of" "weight_of" s_weight_of f fd) (T : Txt κ mg) : FnOk P w κ.K mg base (L2.CX P w) 1 f fd ["figures"] (spV κ [true] g_weight_of) := by
  have sc := sc_weight_of
  refine F.okX sc (fun vs H Q E h => spV_len h) fun cdv A outer s H vs Q E hr h => ⟨tS κ (fun c d _ H' => E c d H') b_weight_of, ?_, v_end (k := 1) rfl h⟩
  have tk : Takes (cxOf (L2.CX P w) P w κ.K mg base ["figures", "sign"] "weight_of" (defScope s_weight_of) f cdv A outer s H E) (fun c d _ H' => E c d H') := takes_of rfl rfl rfl rfl
  have hp := passes_of (X := cxOf (L2.CX P w) P w κ.K mg base ["figures", "sign"] "weight_of" (defScope s_weight_of) f cdv A outer s H E) rfl
  exact s_cons (s_if (PW.pt (w_or (t_not (t_chain (o_leA rfl hr.units) s_leA (o_leA rfl hr.units) s_leA (v_bo (v_int)) (v_bo (v_frz (v_callB call_len s_len rfl T.z_len PySem.boot_len (a_bo (b_var (pv 0)) (a_nil))))) (v_bo (v_int)))) (w_or1 (t_cmp (o_eq rfl hr.units) s_eq (v_bo (v_ix rfl (b_var (pv 0)) (v_bo (v_int)) (fun _ _ => rfl))) (v_bo (v_str (by rfl))) (nomark _))))) (s_one (s_raise0 (c := 4) rfl rfl (congrFun T.xf 4) tk T.g_NoOrder T.e_NoOrder T.k_NoOrder T.b_NoOrder T.t_NoOrder rfl)) (s_nil)) (s_cons (s_lock (i := 0) (s_for hp rfl (i_anyN rfl (pv 0)) (pg_name (i := 1) sc.nd rfl (by first | exact Or.inl rfl | exact Or.inr rfl)) (tg_name 1) (s_one (s_if (t_cmp (o_ninA rfl (units65 hr)) s_ninA (b_var (pv 1)) (v_bo (v_const (pe_glob (v := .str (S c_FIGURES)) rfl T.m_FIGURES.choose_spec ⟨_, rfl⟩) (fun _ => .str _))) (by rfl)) (s_one (s_raise0 (c := 4) rfl rfl (congrFun T.xf 4) tk T.g_NoOrder T.e_NoOrder T.k_NoOrder T.b_NoOrder T.t_NoOrder rfl)) (s_nil))))) (s_one (s_ret (v_callTy call_intA s_int rfl T.z_int (by decide +kernel) (a_bo (b_var (pv 0)) (a_nil))))))
theorem ok_weight_of (T : Txt κ mg) : VFn P w κ mg base "weight_of" 1 [true] g_weight_of := by
  obtain ⟨f, fd, F, hm⟩ := T.d_weight_of
  exact ⟨f, fd, ["figures"], hm, F.kp, fn_weight_of F T, F.binds (ps := ["figures"]) fun _ _ _ _ _ _ us hl => match us, hl with | [_], _ => rfl⟩
abbrev s_ByWeights_init : Stmt := inClass (topS 79) 0
theorem sc_ByWeights_init : FnScope ["self", "letters", "weights", "one"] ["self", "letters", "weights"] (defScope s_ByWeights_init) := ⟨rfl, rfl, rfl, by decide +kernel, rfl, by decide +kernel, by decide +kernel⟩
theorem fn_ByWeights_init {f : Addr} {fd : FuncData} (F : Fun κ.K "__init__" "ByWeights.__init__" s_ByWeights_init f fd) (T : Txt κ mg) (B_Order : VCi P w κ mg base "Order" 1 "__init__" 2 [false] g_Order_init) : FnOk P w κ.K mg base (L2.CX P w) 3 f fd ["self", "letters", "weights"] (spI κ 0 [false, true] g_ByWeights_init) := by
  have sc := sc_ByWeights_init
  refine F.okX sc (fun vs H Q E h => spI_len h) fun cdv A outer s H vs Q E hr h => ⟨tS κ (fun c d _ H' => E c d H') b_ByWeights_init, ?_, v_endI (k := 1) rfl h⟩
  have tk : Takes (cxOf (L2.CX P w) P w κ.K mg base ["self", "letters", "weights", "one"] "ByWeights.__init__" (defScope s_ByWeights_init) f cdv A outer s H E) (fun c d _ H' => E c d H') := takes_of rfl rfl rfl rfl
  have hp := passes_of (X := cxOf (L2.CX P w) P w κ.K mg base ["self", "letters", "weights", "one"] "ByWeights.__init__" (defScope s_ByWeights_init) f cdv A outer s H E) rfl
  exact s_cons (s_dropI (i_init (i := 0) (ms := [false]) B_Order rfl rfl (hr.mono (by decide)) tk rfl (ai_here (i := 0) (pv 0) (a_sh (v_var (pv 1)) (a_nil))))) (s_cons (s_if (t_cmp (o_ne rfl hr.units) s_ne (v_bo (v_frz (v_callB call_len s_len rfl T.z_len PySem.boot_len (a_bo (b_var (pv 2)) (a_nil))))) (v_bo (v_frz (v_callB call_len s_len rfl T.z_len PySem.boot_len (a_bo (v_fB (i := 0) T.fld_letters rfl (pv 0)) (a_nil))))) (nomark _)) (s_one (s_raise0 (c := 4) rfl rfl (congrFun T.xf 4) tk T.g_NoOrder T.e_NoOrder T.k_NoOrder T.b_NoOrder T.t_NoOrder rfl)) (s_nil)) (s_cons (s_lock (i := 2) (s_for hp rfl (i_anyN rfl (pv 2)) (pg_name (i := 3) sc.nd rfl (by first | exact Or.inl rfl | exact Or.inr rfl)) (tg_name 3) (s_one (s_if (PW.pt (w_or (t_cmp (o_ltA rfl hr.units) s_ltA (b_var (pv 3)) (v_bo (v_int)) (nomark _)) (w_or1 (t_cmp o_gt s_cm (b_var (pv 3)) (v_bo (v_int)) (nomark _))))) (s_one (s_raise0 (c := 4) rfl rfl (congrFun T.xf 4) tk T.g_NoOrder T.e_NoOrder T.k_NoOrder T.b_NoOrder T.t_NoOrder rfl)) (s_nil))))) (s_one (s_fld (i := 0) T.fld_weights rfl (pv 0) (i_sh (im (v_frz (v_callTy call_list_of s_list rfl T.z_list (by decide +kernel) (a_bo (b_var (pv 2)) (a_nil))))))))))
theorem okN_ByWeights (T : Txt κ mg) (B_Order : VCi P w κ mg base "Order" 1 "__init__" 2 [false] g_Order_init) : VMk P w κ mg base "ByWeights" 3 3 [false, true] g_ByWeights_init := by
  obtain ⟨f, fd, hm, M, F⟩ := T.mk_ByWeights
  exact ⟨f, fd, ["self", "letters", "weights"], hm, M, fn_ByWeights_init F T B_Order, F.binds (ps := ["self", "letters", "weights"]) fun _ _ _ _ _ _ us hl => match us, hl with | [_, _, _], _ => rfl⟩
abbrev s_Desk_order_row : Stmt := inClass (topS 93) 3
theorem sc_Desk_order_row : FnScope ["self", "row", "weights", "part"] ["self", "row"] (defScope s_Desk_order_row) := ⟨rfl, rfl, rfl, by decide +kernel, rfl, by decide +kernel, by decide +kernel⟩
theorem fn_Desk_order_row {f : Addr} {fd : FuncData} (F : Fun κ.K "order_row" "Desk.order_row" s_Desk_order_row f fd) (T : Txt κ mg) (N_Order : VMk P w κ mg base "Order" 1 2 [false] g_Order_init) (N_FromRight : VMk P w κ mg base "FromRight" 2 2 [false] g_Order_init) (K_weight_of : VFn P w κ mg base "weight_of" 1 [true] g_weight_of) (N_ByWeights : VMk P w κ mg base "ByWeights" 3 3 [false, true] g_ByWeights_init) : FnOk P w κ.K mg base (L2.CX P w) 5 f fd ["self", "row"] (spI κ 0 [false] g_Desk_order_row) := by
  have sc := sc_Desk_order_row
  refine F.okX sc (fun vs H Q E h => spI_len h) fun cdv A outer s H vs Q E hr h => ⟨tS κ (fun c d _ H' => E c d H') b_Desk_order_row, ?_, v_endI (k := 2) rfl h⟩
  have tk : Takes (cxOf (L2.CX P w) P w κ.K mg base ["self", "row", "weights", "part"] "Desk.order_row" (defScope s_Desk_order_row) f cdv A outer s H E) (fun c d _ H' => E c d H') := takes_of rfl rfl rfl rfl
  have hp := passes_of (X := cxOf (L2.CX P w) P w κ.K mg base ["self", "row", "weights", "part"] "Desk.order_row" (defScope s_Desk_order_row) f cdv A outer s H E) rfl
  exact s_cons (s_if (t_cmp (o_eq rfl hr.units) s_eq (b_var (pv 1)) (v_bo (v_str (by rfl))) (nomark _)) (s_one (s_fld (i := 0) T.fld_order rfl (pv 0) (i_sh (im (v_frz (v_sh (v_frz (v_make (ms := [false]) N_Order rfl (hr.mono (by decide)) tk rfl (a_sh (v_fld T.fld_letters rfl (v_fV (i := 0) T.fld_order rfl (pv 0))) (a_nil)))))))))) (s_one (s_if (t_cmp (o_eq rfl hr.units) s_eq (b_var (pv 1)) (v_bo (v_str (by rfl))) (nomark _)) (s_one (s_fld (i := 0) T.fld_order rfl (pv 0) (i_sh (im (v_frz (v_sh (v_frz (v_make (ms := [false]) N_FromRight rfl (hr.mono (by decide)) tk rfl (a_sh (v_fld T.fld_letters rfl (v_fV (i := 0) T.fld_order rfl (pv 0))) (a_nil)))))))))) (s_one (s_if (t_tru rfl (v_bo (v_frz (v_starts (b_var (pv 1)) (v_bo (v_str (by rfl))))))) (s_cons (s_lc (i := 2) (own := [("part", 3)]) (vs := [3]) rfl sc.nd rfl rfl rfl (sw_true rfl rfl rfl (by decide +kernel)) (i_any rfl (v_frz (v_split (v_bo (v_frz (v_sl rfl (b_var (pv 1)) (o_some (v_bo (v_int))) (o_none)))) (v_bo (v_str (by rfl)))))) (blkOk_by (own := [("part", 3)]) (N := ["self", "row", "weights", "part"]) (sc := defScope s_Desk_order_row) (by decide +kernel)) (fun _ _ _ _ _ => pg_name (i := 3) sc.nd rfl (by first | exact Or.inl rfl | exact Or.inr rfl)) (to_name 3 rfl) (fun _ _ _ _ _ => pts_yes) (fun _ _ _ _ _ => v_frz (v_call K_weight_of rfl (hr.mono (by decide)) takes0 rfl (a_bo (b_var (pv 3)) (a_nil))))) (s_one (s_fld (i := 0) T.fld_order rfl (pv 0) (i_sh (im (v_frz (v_sh (v_frz (v_make (ms := [false, true]) N_ByWeights rfl (hr.mono (by decide)) tk rfl (a_sh (v_fld T.fld_letters rfl (v_fV (i := 0) T.fld_order rfl (pv 0))) (a_bo (b_var (pv 2)) (a_nil)))))))))))) (s_one (s_raise0 (c := 9) rfl rfl (congrFun T.xf 9) tk T.g_NoRow T.e_NoRow T.k_NoRow T.b_NoRow T.t_NoRow rfl))))))) (s_one (s_retI (im (v_sh (v_var (pv 1))))))
theorem okI_order_row (T : Txt κ mg) (N_Order : VMk P w κ mg base "Order" 1 2 [false] g_Order_init) (N_FromRight : VMk P w κ mg base "FromRight" 2 2 [false] g_Order_init) (K_weight_of : VFn P w κ mg base "weight_of" 1 [true] g_weight_of) (N_ByWeights : VMk P w κ mg base "ByWeights" 3 3 [false, true] g_ByWeights_init) : VMtI P w κ mg base 4 "order_row" 5 [false] g_Desk_order_row := by
  obtain ⟨f, fd, F, h1, h2, h3⟩ := T.m_4_order_row
  exact ⟨f, fd, ["self", "row"], h1, h2, h3, fn_Desk_order_row F T N_Order N_FromRight K_weight_of N_ByWeights, F.binds (ps := ["self", "row"]) fun _ _ _ _ _ _ us hl => match us, hl with | [_, _], _ => rfl⟩
abbrev s_word_of : Stmt := topS 15
theorem sc_word_of : FnScope ["letters", "text", "most", "place"] ["letters", "text", "most"] (defScope s_word_of) := ⟨rfl, rfl, rfl, by decide +kernel, rfl, by decide +kernel, by decide +kernel⟩
theorem fn_word_of {f : Addr} {fd : FuncData} (F : FunD κ.K "word_of" "word_of" (defArgs s_word_of) (defBody s_word_of) (defScope s_word_of) [V.int 60] [] f fd) (T : Txt κ mg) : FnOk P w κ.K mg base (L2.CX P w) 1 f fd ["letters", "text", "most"] (spV κ [true, false, true] g_word_of) := by
  have sc := sc_word_of
  refine F.ok (CX := L2.CX P w) sc (fun vs H Q E h => spV_len h) fun cdv A outer s H vs Q E hr h => ⟨tS κ (fun c d _ H' => E c d H') b_word_of, ?_, v_end (k := 1) rfl h⟩
  have tk : Takes (cxOf (L2.CX P w) P w κ.K mg base ["letters", "text", "most", "place"] "word_of" (defScope s_word_of) f cdv A outer s H E) (fun c d _ H' => E c d H') := takes_of rfl rfl rfl rfl
  have hp := passes_of (X := cxOf (L2.CX P w) P w κ.K mg base ["letters", "text", "most", "place"] "word_of" (defScope s_word_of) f cdv A outer s H E) rfl
  exact s_cons (s_for hp rfl (i_rg1 rfl rfl T.z_range (a_bo (v_bo (v_frz (v_callB call_len s_len rfl T.z_len PySem.boot_len (a_bo (b_var (pv 1)) (a_nil))))) (a_nil))) (pg_name (i := 3) sc.nd rfl (by first | exact Or.inl rfl | exact Or.inr rfl)) (tg_name 3) (s_one (s_if (PW.pt (w_or (t_cmp o_ge s_cm (b_var (pv 3)) (b_var (pv 2)) (nomark _)) (w_or1 (t_cmp (o_ninA rfl (units65 hr)) s_ninA (v_bo (v_ix rfl (b_var (pv 1)) (b_var (pv 3)) (fun _ _ => rfl))) (b_var (pv 0)) (by rfl))))) (s_one (s_raise_NoWord (c := 2) rfl rfl (congrFun T.xf 2) T.l_NoWord.choose_spec hr tk (b_var (pv 3)))) (s_nil)))) (s_one (s_retV (pv 1)))
theorem ok_word_of (T : Txt κ mg) : VFnD P w κ mg base "word_of" 1 [true, false, true] g_word_of 60 := by
  obtain ⟨f, fd, F, hm⟩ := T.d_word_of
  obtain ⟨b1, b2⟩ := FunD.two (ps := ["letters", "text", "most"]) F 2 rfl (fun T kV doc pm an cdv ct us d hu => by
    match us, hu with
    | [u0, u1], _ => exact ⟨_, rfl, rfl⟩) (fun T kV doc pm an cdv ct us d hu => by
    match us, hu with
    | [u0, u1, u2], _ => exact ⟨_, rfl, rfl⟩)
  exact ⟨f, fd, ["letters", "text", "most"], hm, F.kp, fn_word_of F T, b1, b2⟩
abbrev s_read_word : Stmt := topS 74
theorem sc_read_word : FnScope ["letters", "text", "most"] ["letters", "text", "most"] (defScope s_read_word) := ⟨rfl, rfl, rfl, by decide +kernel, rfl, by decide +kernel, by decide +kernel⟩
theorem fn_read_word {f : Addr} {fd : FuncData} (F : FunD κ.K "read_word" "read_word" (defArgs s_read_word) (defBody s_read_word) (defScope s_read_word) [V.int 60] [] f fd) (T : Txt κ mg) (K_word_of : VFnD P w κ mg base "word_of" 1 [true, false, true] g_word_of 60) : FnOk P w κ.K mg base (L2.CX P w) 2 f fd ["letters", "text", "most"] (spV κ [true, false, true] g_read_word) := by
  have sc := sc_read_word
  refine F.ok (CX := L2.CX P w) sc (fun vs H Q E h => spV_len h) fun cdv A outer s H vs Q E hr h => ⟨tS κ (fun c d _ H' => E c d H') b_read_word, ?_, v_end (k := 0) rfl h⟩
  have tk : Takes (cxOf (L2.CX P w) P w κ.K mg base ["letters", "text", "most"] "read_word" (defScope s_read_word) f cdv A outer s H E) (fun c d _ H' => E c d H') := takes_of rfl rfl rfl rfl
  have hp := passes_of (X := cxOf (L2.CX P w) P w κ.K mg base ["letters", "text", "most"] "read_word" (defScope s_read_word) f cdv A outer s H E) rfl
  exact s_cons (s_if (t_cmp (o_eq rfl hr.units) s_eq (b_var (pv 1)) (v_bo (v_str (by rfl))) (nomark _)) (s_one (s_ret (v_sh (v_str (by rfl))))) (s_nil)) (s_cons (s_if (t_cmp (o_eq rfl hr.units) s_eq (b_var (pv 1)) (v_bo (v_str (by rfl))) (nomark _)) (s_one (s_raise_NoWord (c := 2) rfl rfl (congrFun T.xf 2) T.l_NoWord.choose_spec hr tk (v_bo (v_int)))) (s_nil)) (s_one (s_ret (v_call K_word_of.v rfl (hr.mono (by decide)) tk rfl (a_bo (b_var (pv 0)) (a_sh (v_var (pv 1)) (a_bo (b_var (pv 2)) (a_nil))))))))
theorem ok_read_word (T : Txt κ mg) (K_word_of : VFnD P w κ mg base "word_of" 1 [true, false, true] g_word_of 60) : VFnD P w κ mg base "read_word" 2 [true, false, true] g_read_word 60 := by
  obtain ⟨f, fd, F, hm⟩ := T.d_read_word
  obtain ⟨b1, b2⟩ := FunD.two (ps := ["letters", "text", "most"]) F 2 rfl (fun T kV doc pm an cdv ct us d hu => by
    match us, hu with
    | [u0, u1], _ => exact ⟨_, rfl, rfl⟩) (fun T kV doc pm an cdv ct us d hu => by
    match us, hu with
    | [u0, u1, u2], _ => exact ⟨_, rfl, rfl⟩)
  exact ⟨f, fd, ["letters", "text", "most"], hm, F.kp, fn_read_word F T K_word_of, b1, b2⟩
abbrev s_read_pact : Stmt := topS 75
theorem sc_read_pact : FnScope ["letters", "text", "most", "parts", "one", "other"] ["letters", "text", "most"] (defScope s_read_pact) := ⟨rfl, rfl, rfl, by decide +kernel, rfl, by decide +kernel, by decide +kernel⟩
theorem fn_read_pact {f : Addr} {fd : FuncData} (F : FunD κ.K "read_pact" "read_pact" (defArgs s_read_pact) (defBody s_read_pact) (defScope s_read_pact) [V.int 60] [] f fd) (T : Txt κ mg) (K_read_word : VFnD P w κ mg base "read_word" 2 [true, false, true] g_read_word 60) : FnOk P w κ.K mg base (L2.CX P w) 3 f fd ["letters", "text", "most"] (spV κ [true, true, true] g_read_pact) := by
  have sc := sc_read_pact
  refine F.ok (CX := L2.CX P w) sc (fun vs H Q E h => spV_len h) fun cdv A outer s H vs Q E hr h => ⟨tS κ (fun c d _ H' => E c d H') b_read_pact, ?_, v_end (k := 3) rfl h⟩
  have tk : Takes (cxOf (L2.CX P w) P w κ.K mg base ["letters", "text", "most", "parts", "one", "other"] "read_pact" (defScope s_read_pact) f cdv A outer s H E) (fun c d _ H' => E c d H') := takes_of rfl rfl rfl rfl
  have hp := passes_of (X := cxOf (L2.CX P w) P w κ.K mg base ["letters", "text", "most", "parts", "one", "other"] "read_pact" (defScope s_read_pact) f cdv A outer s H E) rfl
  exact s_cons (s_asg (i := 3) sc.nd rfl (by first | exact Or.inl rfl | exact Or.inr rfl) (v_part (b_var (pv 1)) (v_bo (v_str (by rfl))))) (s_cons (s_if (t_cmp (o_eq rfl hr.units) s_eq (v_bo (v_ix rfl (b_var (pv 3)) (v_bo (v_int)) (fun _ _ => rfl))) (v_bo (v_str (by rfl))) (nomark _)) (s_one (s_raise0 (c := 3) rfl rfl (congrFun T.xf 3) tk T.g_NoPact T.e_NoPact T.k_NoPact T.b_NoPact T.t_NoPact rfl)) (s_nil)) (s_cons (s_asg (i := 4) sc.nd rfl (by first | exact Or.inl rfl | exact Or.inr rfl) (v_call K_read_word.v rfl (hr.mono (by decide)) tk rfl (a_bo (b_var (pv 0)) (a_sh (v_ix rfl (b_var (pv 3)) (v_bo (v_int)) (fun _ _ => rfl)) (a_bo (b_var (pv 2)) (a_nil)))))) (s_cons (s_asg (i := 5) sc.nd rfl (by first | exact Or.inl rfl | exact Or.inr rfl) (v_call K_read_word.v rfl (hr.mono (by decide)) tk rfl (a_bo (b_var (pv 0)) (a_sh (v_ix rfl (b_var (pv 3)) (v_bo (v_int)) (fun _ _ => rfl)) (a_bo (b_var (pv 2)) (a_nil)))))) (s_one (s_ret (v_sh (v_tup (ms := [false, false]) rfl (a_sh (v_var (pv 4)) (a_sh (v_var (pv 5)) (a_nil))))))))))
theorem ok_read_pact (T : Txt κ mg) (K_read_word : VFnD P w κ mg base "read_word" 2 [true, false, true] g_read_word 60) : VFnD P w κ mg base "read_pact" 3 [true, true, true] g_read_pact 60 := by
  obtain ⟨f, fd, F, hm⟩ := T.d_read_pact
  obtain ⟨b1, b2⟩ := FunD.two (ps := ["letters", "text", "most"]) F 2 rfl (fun T kV doc pm an cdv ct us d hu => by
    match us, hu with
    | [u0, u1], _ => exact ⟨_, rfl, rfl⟩) (fun T kV doc pm an cdv ct us d hu => by
    match us, hu with
    | [u0, u1, u2], _ => exact ⟨_, rfl, rfl⟩)
  exact ⟨f, fd, ["letters", "text", "most"], hm, F.kp, fn_read_pact F T K_read_word, b1, b2⟩
abbrev s_Desk_pact_row : Stmt := inClass (topS 93) 4
theorem sc_Desk_pact_row : FnScope ["self", "row", "pact"] ["self", "row"] (defScope s_Desk_pact_row) := ⟨rfl, rfl, rfl, by decide +kernel, rfl, by decide +kernel, by decide +kernel⟩
theorem fn_Desk_pact_row {f : Addr} {fd : FuncData} (F : Fun κ.K "pact_row" "Desk.pact_row" s_Desk_pact_row f fd) (T : Txt κ mg) (K_read_pact : VFnD P w κ mg base "read_pact" 3 [true, true, true] g_read_pact 60) : FnOk P w κ.K mg base (L2.CX P w) 4 f fd ["self", "row"] (spI κ 0 [false] g_Desk_pact_row) := by
  have sc := sc_Desk_pact_row
  refine F.okX sc (fun vs H Q E h => spI_len h) fun cdv A outer s H vs Q E hr h => ⟨tS κ (fun c d _ H' => E c d H') b_Desk_pact_row, ?_, v_endI (k := 1) rfl h⟩
  have tk : Takes (cxOf (L2.CX P w) P w κ.K mg base ["self", "row", "pact"] "Desk.pact_row" (defScope s_Desk_pact_row) f cdv A outer s H E) (fun c d _ H' => E c d H') := takes_of rfl rfl rfl rfl
  have hp := passes_of (X := cxOf (L2.CX P w) P w κ.K mg base ["self", "row", "pact"] "Desk.pact_row" (defScope s_Desk_pact_row) f cdv A outer s H E) rfl
  exact s_cons (s_asg (i := 2) sc.nd rfl (by first | exact Or.inl rfl | exact Or.inr rfl) (v_call K_read_pact.v rfl (hr.mono (by decide)) tk rfl (a_bo (v_bo (v_fld T.fld_letters rfl (v_fV (i := 0) T.fld_order rfl (pv 0)))) (a_bo (v_bo (v_frz (v_sl rfl (b_var (pv 1)) (o_some (v_bo (v_int))) (o_none)))) (a_bo (v_bo (v_const (pe_glob (v := .int 10) rfl T.m_MOST_SIDE.choose_spec ⟨_, rfl⟩) (fun _ => .int _))) (a_nil)))))) (s_cons (s_if (t_cmp o_ge s_cm (v_bo (v_frz (v_callB call_len s_len rfl T.z_len PySem.boot_len (a_bo (v_fB (i := 0) T.fld_pacts rfl (pv 0)) (a_nil))))) (v_bo (v_const (pe_glob (v := .int 8) rfl T.m_MOST_PACTS.choose_spec ⟨_, rfl⟩) (fun _ => .int _))) (nomark _)) (s_one (s_raise0 (c := 8) rfl rfl (congrFun T.xf 8) tk T.g_TooMany T.e_TooMany T.k_TooMany T.b_TooMany T.t_TooMany rfl)) (s_nil)) (s_cons (s_appF (i := 0) T.fld_pacts rfl (pv 0) (v_var (pv 2))) (s_one (s_retI (im (v_op o_add s_add (v_bo (v_str (by rfl))) (v_bo (v_frz (v_callTy call_str_int s_str rfl T.z_str (by decide +kernel) (a_bo (v_bo (v_frz (v_op op_sub s_sub (v_bo (v_frz (v_callB call_len s_len rfl T.z_len PySem.boot_len (a_bo (v_fB (i := 0) T.fld_pacts rfl (pv 0)) (a_nil))))) (v_bo (v_int))))) (a_nil)))))))))))
theorem okI_pact_row (T : Txt κ mg) (K_read_pact : VFnD P w κ mg base "read_pact" 3 [true, true, true] g_read_pact 60) : VMtI P w κ mg base 4 "pact_row" 4 [false] g_Desk_pact_row := by
  obtain ⟨f, fd, F, h1, h2, h3⟩ := T.m_4_pact_row
  exact ⟨f, fd, ["self", "row"], h1, h2, h3, fn_Desk_pact_row F T K_read_pact, F.binds (ps := ["self", "row"]) fun _ _ _ _ _ _ us hl => match us, hl with | [_, _], _ => rfl⟩
abbrev s_shown_word : Stmt := topS 69
theorem sc_shown_word : FnScope ["word"] ["word"] (defScope s_shown_word) := ⟨rfl, rfl, rfl, by decide +kernel, rfl, by decide +kernel, by decide +kernel⟩
theorem fn_shown_word {f : Addr} {fd : FuncData} (F : Fun κ.K "shown_word" "shown_word" s_shown_word f fd) (T : Txt κ mg) : FnOk P w κ.K mg base (L2.CX P w) 1 f fd ["word"] (spV κ [false] g_shown_word) := by
  have sc := sc_shown_word
  refine F.okX sc (fun vs H Q E h => spV_len h) fun cdv A outer s H vs Q E hr h => ⟨tS κ (fun c d _ H' => E c d H') b_shown_word, ?_, v_end (k := 0) rfl h⟩
  have tk : Takes (cxOf (L2.CX P w) P w κ.K mg base ["word"] "shown_word" (defScope s_shown_word) f cdv A outer s H E) (fun c d _ H' => E c d H') := takes_of rfl rfl rfl rfl
  have hp := passes_of (X := cxOf (L2.CX P w) P w κ.K mg base ["word"] "shown_word" (defScope s_shown_word) f cdv A outer s H E) rfl
  exact s_cons (s_if (t_cmp (o_eq rfl hr.units) s_eq (b_var (pv 0)) (v_bo (v_str (by rfl))) (nomark _)) (s_one (s_ret (v_sh (v_str (by rfl))))) (s_nil)) (s_one (s_retV (pv 0)))
theorem ok_shown_word (T : Txt κ mg) : VFn P w κ mg base "shown_word" 1 [false] g_shown_word := by
  obtain ⟨f, fd, F, hm⟩ := T.d_shown_word
  exact ⟨f, fd, ["word"], hm, F.kp, fn_shown_word F T, F.binds (ps := ["word"]) fun _ _ _ _ _ _ us hl => match us, hl with | [_], _ => rfl⟩
abbrev s_shown_pact : Stmt := topS 70
theorem sc_shown_pact : FnScope ["pact"] ["pact"] (defScope s_shown_pact) := ⟨rfl, rfl, rfl, by decide +kernel, rfl, by decide +kernel, by decide +kernel⟩
theorem fn_shown_pact {f : Addr} {fd : FuncData} (F : Fun κ.K "shown_pact" "shown_pact" s_shown_pact f fd) (T : Txt κ mg) (K_shown_word : VFn P w κ mg base "shown_word" 1 [false] g_shown_word) : FnOk P w κ.K mg base (L2.CX P w) 2 f fd ["pact"] (spV κ [true] g_shown_pact) := by
  have sc := sc_shown_pact
  refine F.okX sc (fun vs H Q E h => spV_len h) fun cdv A outer s H vs Q E hr h => ⟨tS κ (fun c d _ H' => E c d H') b_shown_pact, ?_, v_end (k := 0) rfl h⟩
  have tk : Takes (cxOf (L2.CX P w) P w κ.K mg base ["pact"] "shown_pact" (defScope s_shown_pact) f cdv A outer s H E) (fun c d _ H' => E c d H') := takes_of rfl rfl rfl rfl
  have hp := passes_of (X := cxOf (L2.CX P w) P w κ.K mg base ["pact"] "shown_pact" (defScope s_shown_pact) f cdv A outer s H E) rfl
  exact s_one (s_ret (v_op o_add s_add (v_bo (v_frz (v_op o_add s_add (v_bo (v_frz (v_call K_shown_word rfl (hr.mono (by decide)) tk rfl (a_sh (v_ix rfl (b_var (pv 0)) (v_bo (v_int)) (fun _ _ => rfl)) (a_nil))))) (v_bo (v_str (by rfl)))))) (v_bo (v_frz (v_call K_shown_word rfl (hr.mono (by decide)) tk rfl (a_sh (v_ix rfl (b_var (pv 0)) (v_bo (v_int)) (fun _ _ => rfl)) (a_nil)))))))
theorem ok_shown_pact (T : Txt κ mg) (K_shown_word : VFn P w κ mg base "shown_word" 1 [false] g_shown_word) : VFn P w κ mg base "shown_pact" 2 [true] g_shown_pact := by
  obtain ⟨f, fd, F, hm⟩ := T.d_shown_pact
  exact ⟨f, fd, ["pact"], hm, F.kp, fn_shown_pact F T K_shown_word, F.binds (ps := ["pact"]) fun _ _ _ _ _ _ us hl => match us, hl with | [_], _ => rfl⟩
abbrev s_Desk_drop_row : Stmt := inClass (topS 93) 5
theorem sc_Desk_drop_row : FnScope ["self"] ["self"] (defScope s_Desk_drop_row) := ⟨rfl, rfl, rfl, by decide +kernel, rfl, by decide +kernel, by decide +kernel⟩
theorem fn_Desk_drop_row {f : Addr} {fd : FuncData} (F : Fun κ.K "drop_row" "Desk.drop_row" s_Desk_drop_row f fd) (T : Txt κ mg) (K_shown_pact : VFn P w κ mg base "shown_pact" 2 [true] g_shown_pact) : FnOk P w κ.K mg base (L2.CX P w) 3 f fd ["self"] (spI κ 0 [] g_Desk_drop_row) := by
  have sc := sc_Desk_drop_row
  refine F.okX sc (fun vs H Q E h => spI_len h) fun cdv A outer s H vs Q E hr h => ⟨tS κ (fun c d _ H' => E c d H') b_Desk_drop_row, ?_, v_endI (k := 0) rfl h⟩
  have tk : Takes (cxOf (L2.CX P w) P w κ.K mg base ["self"] "Desk.drop_row" (defScope s_Desk_drop_row) f cdv A outer s H E) (fun c d _ H' => E c d H') := takes_of rfl rfl rfl rfl
  have hp := passes_of (X := cxOf (L2.CX P w) P w κ.K mg base ["self"] "Desk.drop_row" (defScope s_Desk_drop_row) f cdv A outer s H E) rfl
  exact s_cons (s_if (t_not (t_tru rfl (v_fB (i := 0) T.fld_pacts rfl (pv 0)))) (s_one (s_raise0 (c := 9) rfl rfl (congrFun T.xf 9) tk T.g_NoRow T.e_NoRow T.k_NoRow T.b_NoRow T.t_NoRow rfl)) (s_nil)) (s_one (s_retI (i_op o_add s_add (im (v_str (by rfl))) (i_frz (i_call (ms' := [false]) K_shown_pact rfl (hr.mono (by decide)) tk rfl rfl rfl (ia_sh (ms := []) (i_popF (i := 0) T.fld_pacts rfl (pv 0)) (ia_nil) rfl))))))
theorem okI_drop_row (T : Txt κ mg) (K_shown_pact : VFn P w κ mg base "shown_pact" 2 [true] g_shown_pact) : VMtI P w κ mg base 4 "drop_row" 3 [] g_Desk_drop_row := by
  obtain ⟨f, fd, F, h1, h2, h3⟩ := T.m_4_drop_row
  exact ⟨f, fd, ["self"], h1, h2, h3, fn_Desk_drop_row F T K_shown_pact, F.binds (ps := ["self"]) fun _ _ _ _ _ _ us hl => match us, hl with | [_], _ => rfl⟩
abbrev s_shown_step : Stmt := topS 71
theorem sc_shown_step : FnScope ["step", "sign"] ["step"] (defScope s_shown_step) := ⟨rfl, rfl, rfl, by decide +kernel, rfl, by decide +kernel, by decide +kernel⟩
theorem fn_shown_step {f : Addr} {fd : FuncData} (F : Fun κ.K "shown_step" "shown_step" s_shown_step f fd) (T : Txt κ mg) : FnOk P w κ.K mg base (L2.CX P w) 1 f fd ["step"] (spV κ [true] g_shown_step) := by
  have sc := sc_shown_step
  refine F.okX sc (fun vs H Q E h => spV_len h) fun cdv A outer s H vs Q E hr h => ⟨tS κ (fun c d _ H' => E c d H') b_shown_step, ?_, v_end (k := 1) rfl h⟩
  have tk : Takes (cxOf (L2.CX P w) P w κ.K mg base ["step", "sign"] "shown_step" (defScope s_shown_step) f cdv A outer s H E) (fun c d _ H' => E c d H') := takes_of rfl rfl rfl rfl
  have hp := passes_of (X := cxOf (L2.CX P w) P w κ.K mg base ["step", "sign"] "shown_step" (defScope s_shown_step) f cdv A outer s H E) rfl
  exact s_cons (s_asg (i := 1) sc.nd rfl (by first | exact Or.inl rfl | exact Or.inr rfl) (v_sh (v_if (t_tru rfl (v_bo (v_ix rfl (b_var (pv 0)) (v_bo (v_int)) (fun _ _ => rfl)))) (v_str (by rfl)) (v_str (by rfl))))) (s_one (s_ret (v_op o_add s_add (v_bo (v_frz (v_op o_add s_add (v_bo (v_frz (v_callTy call_str_int s_str rfl T.z_str (by decide +kernel) (a_bo (v_bo (v_ix rfl (b_var (pv 0)) (v_bo (v_int)) (fun _ _ => rfl))) (a_nil))))) (b_var (pv 1))))) (v_bo (v_frz (v_callTy call_str_int s_str rfl T.z_str (by decide +kernel) (a_bo (v_bo (v_ix rfl (b_var (pv 0)) (v_bo (v_int)) (fun _ _ => rfl))) (a_nil))))))))
theorem ok_shown_step (T : Txt κ mg) : VFn P w κ mg base "shown_step" 1 [true] g_shown_step := by
  obtain ⟨f, fd, F, hm⟩ := T.d_shown_step
  exact ⟨f, fd, ["step"], hm, F.kp, fn_shown_step F T, F.binds (ps := ["step"]) fun _ _ _ _ _ _ us hl => match us, hl with | [_], _ => rfl⟩
abbrev s_shown_steps : Stmt := topS 72
theorem sc_shown_steps : FnScope ["steps", "step"] ["steps"] (defScope s_shown_steps) := ⟨rfl, rfl, rfl, by decide +kernel, rfl, by decide +kernel, by decide +kernel⟩
theorem fn_shown_steps {f : Addr} {fd : FuncData} (F : Fun κ.K "shown_steps" "shown_steps" s_shown_steps f fd) (T : Txt κ mg) (K_shown_step : VFn P w κ mg base "shown_step" 1 [true] g_shown_step) : FnOk P w κ.K mg base (L2.CX P w) 2 f fd ["steps"] (spV κ [true] g_shown_steps) := by
  have sc := sc_shown_steps
  refine F.okX sc (fun vs H Q E h => spV_len h) fun cdv A outer s H vs Q E hr h => ⟨tS κ (fun c d _ H' => E c d H') b_shown_steps, ?_, v_end (k := 1) rfl h⟩
  have tk : Takes (cxOf (L2.CX P w) P w κ.K mg base ["steps", "step"] "shown_steps" (defScope s_shown_steps) f cdv A outer s H E) (fun c d _ H' => E c d H') := takes_of rfl rfl rfl rfl
  have hp := passes_of (X := cxOf (L2.CX P w) P w κ.K mg base ["steps", "step"] "shown_steps" (defScope s_shown_steps) f cdv A outer s H E) rfl
  exact s_cons (s_if (t_cmp (o_eq rfl hr.units) s_eq (v_bo (v_frz (v_callB call_len s_len rfl T.z_len PySem.boot_len (a_bo (b_var (pv 0)) (a_nil))))) (v_bo (v_int)) (nomark _)) (s_one (s_ret (v_sh (v_str (by rfl))))) (s_nil)) (s_one (s_ret (v_join (v_bo (v_str (by rfl))) (v_bo (v_frz (v_lock (i := 0) (v_lc (own := [("step", 1)]) (vs := [1]) rfl sc.nd rfl (i_anyN rfl (pv 0)) (blkOk_by (own := [("step", 1)]) (N := ["steps", "step"]) (sc := defScope s_shown_steps) (by decide +kernel)) (fun _ _ _ _ _ => pg_name (i := 1) sc.nd rfl (by first | exact Or.inl rfl | exact Or.inr rfl)) (to_name 1 rfl) (fun _ _ _ _ _ => pts_yes) (fun _ _ _ _ _ => v_frz (v_call K_shown_step rfl (hr.mono (by decide)) takes0 rfl (a_bo (b_var (pv 1)) (a_nil)))))))))))
theorem ok_shown_steps (T : Txt κ mg) (K_shown_step : VFn P w κ mg base "shown_step" 1 [true] g_shown_step) : VFn P w κ mg base "shown_steps" 2 [true] g_shown_steps := by
  obtain ⟨f, fd, F, hm⟩ := T.d_shown_steps
  exact ⟨f, fd, ["steps"], hm, F.kp, fn_shown_steps F T K_shown_step, F.binds (ps := ["steps"]) fun _ _ _ _ _ _ us hl => match us, hl with | [_], _ => rfl⟩
abbrev s_shown_entry : Stmt := topS 73
theorem sc_shown_entry : FnScope ["entry"] ["entry"] (defScope s_shown_entry) := ⟨rfl, rfl, rfl, by decide +kernel, rfl, by decide +kernel, by decide +kernel⟩
theorem fn_shown_entry {f : Addr} {fd : FuncData} (F : Fun κ.K "shown_entry" "shown_entry" s_shown_entry f fd) (T : Txt κ mg) (K_shown_pact : VFn P w κ mg base "shown_pact" 2 [true] g_shown_pact) (K_shown_steps : VFn P w κ mg base "shown_steps" 2 [true] g_shown_steps) : FnOk P w κ.K mg base (L2.CX P w) 3 f fd ["entry"] (spV κ [true] g_shown_entry) := by
  have sc := sc_shown_entry
  refine F.okX sc (fun vs H Q E h => spV_len h) fun cdv A outer s H vs Q E hr h => ⟨tS κ (fun c d _ H' => E c d H') b_shown_entry, ?_, v_end (k := 0) rfl h⟩
  have tk : Takes (cxOf (L2.CX P w) P w κ.K mg base ["entry"] "shown_entry" (defScope s_shown_entry) f cdv A outer s H E) (fun c d _ H' => E c d H') := takes_of rfl rfl rfl rfl
  have hp := passes_of (X := cxOf (L2.CX P w) P w κ.K mg base ["entry"] "shown_entry" (defScope s_shown_entry) f cdv A outer s H E) rfl
  exact s_one (s_ret (v_op o_add s_add (v_bo (v_frz (v_op o_add s_add (v_bo (v_frz (v_call K_shown_pact rfl (hr.mono (by decide)) tk rfl (a_bo (v_bo (v_tup (ms := [false, false]) rfl (a_sh (v_ix rfl (b_var (pv 0)) (v_bo (v_int)) (fun _ _ => rfl)) (a_sh (v_ix rfl (b_var (pv 0)) (v_bo (v_int)) (fun _ _ => rfl)) (a_nil))))) (a_nil))))) (v_bo (v_str (by rfl)))))) (v_bo (v_frz (v_call K_shown_steps rfl (hr.mono (by decide)) tk rfl (a_bo (v_bo (v_ix rfl (b_var (pv 0)) (v_bo (v_int)) (fun _ _ => rfl))) (a_nil)))))))
theorem ok_shown_entry (T : Txt κ mg) (K_shown_pact : VFn P w κ mg base "shown_pact" 2 [true] g_shown_pact) (K_shown_steps : VFn P w κ mg base "shown_steps" 2 [true] g_shown_steps) : VFn P w κ mg base "shown_entry" 3 [true] g_shown_entry := by
  obtain ⟨f, fd, F, hm⟩ := T.d_shown_entry
  exact ⟨f, fd, ["entry"], hm, F.kp, fn_shown_entry F T K_shown_pact K_shown_steps, F.binds (ps := ["entry"]) fun _ _ _ _ _ _ us hl => match us, hl with | [_], _ => rfl⟩
abbrev s_shown_entries : Stmt := topS 90
theorem sc_shown_entries : FnScope ["entries", "entry"] ["entries"] (defScope s_shown_entries) := ⟨rfl, rfl, rfl, by decide +kernel, rfl, by decide +kernel, by decide +kernel⟩
theorem fn_shown_entries {f : Addr} {fd : FuncData} (F : Fun κ.K "shown_entries" "shown_entries" s_shown_entries f fd) (T : Txt κ mg) (K_shown_entry : VFn P w κ mg base "shown_entry" 3 [true] g_shown_entry) : FnOk P w κ.K mg base (L2.CX P w) 4 f fd ["entries"] (spV κ [true] g_shown_entries) := by
  have sc := sc_shown_entries
  refine F.okX sc (fun vs H Q E h => spV_len h) fun cdv A outer s H vs Q E hr h => ⟨tS κ (fun c d _ H' => E c d H') b_shown_entries, ?_, v_end (k := 1) rfl h⟩
  have tk : Takes (cxOf (L2.CX P w) P w κ.K mg base ["entries", "entry"] "shown_entries" (defScope s_shown_entries) f cdv A outer s H E) (fun c d _ H' => E c d H') := takes_of rfl rfl rfl rfl
  have hp := passes_of (X := cxOf (L2.CX P w) P w κ.K mg base ["entries", "entry"] "shown_entries" (defScope s_shown_entries) f cdv A outer s H E) rfl
  exact s_one (s_ret (v_join (v_bo (v_str (by rfl))) (v_bo (v_frz (v_lock (i := 0) (v_lc (own := [("entry", 1)]) (vs := [1]) rfl sc.nd rfl (i_anyN rfl (pv 0)) (blkOk_by (own := [("entry", 1)]) (N := ["entries", "entry"]) (sc := defScope s_shown_entries) (by decide +kernel)) (fun _ _ _ _ _ => pg_name (i := 1) sc.nd rfl (by first | exact Or.inl rfl | exact Or.inr rfl)) (to_name 1 rfl) (fun _ _ _ _ _ => pts_yes) (fun _ _ _ _ _ => v_frz (v_op o_add s_add (v_bo (v_str (by rfl))) (v_bo (v_frz (v_call K_shown_entry rfl (hr.mono (by decide)) takes0 rfl (a_bo (b_var (pv 1)) (a_nil)))))))))))))
theorem ok_shown_entries (T : Txt κ mg) (K_shown_entry : VFn P w κ mg base "shown_entry" 3 [true] g_shown_entry) : VFn P w κ mg base "shown_entries" 4 [true] g_shown_entries := by
  obtain ⟨f, fd, F, hm⟩ := T.d_shown_entries
  exact ⟨f, fd, ["entries"], hm, F.kp, fn_shown_entries F T K_shown_entry, F.binds (ps := ["entries"]) fun _ _ _ _ _ _ us hl => match us, hl with | [_], _ => rfl⟩
abbrev s_Desk_told : Stmt := inClass (topS 93) 1
theorem sc_Desk_told : FnScope ["self", "row", "whole", "kept"] ["self", "row"] (defScope s_Desk_told) := ⟨rfl, rfl, rfl, by decide +kernel, rfl, by decide +kernel, by decide +kernel⟩
theorem fn_Desk_told {f : Addr} {fd : FuncData} (F : Fun κ.K "told" "Desk.told" s_Desk_told f fd) (T : Txt κ mg) (I_letters_row : VMtI P w κ mg base 4 "letters_row" 4 [false] g_Desk_letters_row) (I_order_row : VMtI P w κ mg base 4 "order_row" 5 [false] g_Desk_order_row) (I_pact_row : VMtI P w κ mg base 4 "pact_row" 4 [false] g_Desk_pact_row) (I_drop_row : VMtI P w κ mg base 4 "drop_row" 3 [] g_Desk_drop_row) (K_shown_entries : VFn P w κ mg base "shown_entries" 4 [true] g_shown_entries) : FnOk P w κ.K mg base (L2.CX P w) 6 f fd ["self", "row"] (spI κ 0 [false] g_Desk_told) := by
  have sc := sc_Desk_told
  refine F.okX sc (fun vs H Q E h => spI_len h) fun cdv A outer s H vs Q E hr h => ⟨tS κ (fun c d _ H' => E c d H') b_Desk_told, ?_, v_endI (k := 2) rfl h⟩
  have tk : Takes (cxOf (L2.CX P w) P w κ.K mg base ["self", "row", "whole", "kept"] "Desk.told" (defScope s_Desk_told) f cdv A outer s H E) (fun c d _ H' => E c d H') := takes_of rfl rfl rfl rfl
  have hp := passes_of (X := cxOf (L2.CX P w) P w κ.K mg base ["self", "row", "whole", "kept"] "Desk.told" (defScope s_Desk_told) f cdv A outer s H E) rfl
  exact s_cons (s_if (t_tru rfl (v_bo (v_frz (v_starts (b_var (pv 1)) (v_bo (v_str (by rfl))))))) (s_one (s_retI (i_methI (i := 0) (ms := [false]) I_letters_row rfl rfl (hr.mono (by decide)) tk (pv 0) (a_sh (v_var (pv 1)) (a_nil))))) (s_nil)) (s_cons (s_if (t_cmp op_isN s_isN (v_fB (i := 0) T.fld_order rfl (pv 0)) (v_bo (v_non)) (nomark _)) (s_one (s_raise0 (c := 9) rfl rfl (congrFun T.xf 9) tk T.g_NoRow T.e_NoRow T.k_NoRow T.b_NoRow T.t_NoRow rfl)) (s_nil)) (s_cons (s_if (t_tru rfl (v_bo (v_frz (v_starts (b_var (pv 1)) (v_bo (v_str (by rfl))))))) (s_one (s_retI (i_methI (i := 0) (ms := [false]) I_order_row rfl rfl (hr.mono (by decide)) tk (pv 0) (a_sh (v_var (pv 1)) (a_nil))))) (s_nil)) (s_cons (s_if (t_tru rfl (v_bo (v_frz (v_starts (b_var (pv 1)) (v_bo (v_str (by rfl))))))) (s_one (s_retI (i_methI (i := 0) (ms := [false]) I_pact_row rfl rfl (hr.mono (by decide)) tk (pv 0) (a_sh (v_var (pv 1)) (a_nil))))) (s_nil)) (s_cons (s_if (t_cmp (o_eq rfl hr.units) s_eq (b_var (pv 1)) (v_bo (v_str (by rfl))) (nomark _)) (s_one (s_retI (i_methI0 (i := 0) I_drop_row rfl (hr.mono (by decide)) tk (pv 0)))) (s_nil)) (s_cons (s_if (t_cmp (o_eq rfl hr.units) s_eq (b_var (pv 1)) (v_bo (v_str (by rfl))) (nomark _)) (s_cons (s_stuck) (s_one (s_retI (im (v_op o_add s_add (v_bo (v_if (t_tru rfl (b_var (pv 2))) (v_str (by rfl)) (v_str (by rfl)))) (v_bo (v_frz (v_call K_shown_entries rfl (hr.mono (by decide)) tk rfl (a_bo (b_var (pv 3)) (a_nil)))))))))) (s_nil)) (s_cons (s_if (t_tru rfl (v_bo (v_frz (v_starts (b_var (pv 1)) (v_bo (v_str (by rfl))))))) (s_one (s_stuck)) (s_nil)) (s_cons (s_if (t_tru rfl (v_bo (v_frz (v_starts (b_var (pv 1)) (v_bo (v_str (by rfl))))))) (s_one (s_stuck)) (s_nil)) (s_one (s_raise0 (c := 9) rfl rfl (congrFun T.xf 9) tk T.g_NoRow T.e_NoRow T.k_NoRow T.b_NoRow T.t_NoRow rfl)))))))))
theorem okI_told (T : Txt κ mg) (I_letters_row : VMtI P w κ mg base 4 "letters_row" 4 [false] g_Desk_letters_row) (I_order_row : VMtI P w κ mg base 4 "order_row" 5 [false] g_Desk_order_row) (I_pact_row : VMtI P w κ mg base 4 "pact_row" 4 [false] g_Desk_pact_row) (I_drop_row : VMtI P w κ mg base 4 "drop_row" 3 [] g_Desk_drop_row) (K_shown_entries : VFn P w κ mg base "shown_entries" 4 [true] g_shown_entries) : VMtI P w κ mg base 4 "told" 6 [false] g_Desk_told := by
  obtain ⟨f, fd, F, h1, h2, h3⟩ := T.m_4_told
  exact ⟨f, fd, ["self", "row"], h1, h2, h3, fn_Desk_told F T I_letters_row I_order_row I_pact_row I_drop_row K_shown_entries, F.binds (ps := ["self", "row"]) fun _ _ _ _ _ _ us hl => match us, hl with | [_, _], _ => rfl⟩
abbrev s_law_mixed : Stmt := topS 99
theorem sc_law_mixed : FnScope ["_law_cell", "_law_k"] ["_law_cell", "_law_k"] (defScope s_law_mixed) := ⟨rfl, rfl, rfl, by decide +kernel, rfl, by decide +kernel, by decide +kernel⟩
theorem fn_law_mixed {f : Addr} {fd : FuncData} (F : Fun κ.K "_law_mixed" "_law_mixed" s_law_mixed f fd) (T : Txt κ mg) : FnOk P w κ.K mg base (L2.CX P w) 1 f fd ["_law_cell", "_law_k"] (spV κ [true, true] g_law_mixed) := by
  have sc := sc_law_mixed
  refine F.okX sc (fun vs H Q E h => spV_len h) fun cdv A outer s H vs Q E hr h => ⟨tS κ (fun c d _ H' => E c d H') b_law_mixed, ?_, v_end (k := 0) rfl h⟩
  have tk : Takes (cxOf (L2.CX P w) P w κ.K mg base ["_law_cell", "_law_k"] "_law_mixed" (defScope s_law_mixed) f cdv A outer s H E) (fun c d _ H' => E c d H') := takes_of rfl rfl rfl rfl
  have hp := passes_of (X := cxOf (L2.CX P w) P w κ.K mg base ["_law_cell", "_law_k"] "_law_mixed" (defScope s_law_mixed) f cdv A outer s H E) rfl
  exact s_one (s_ret (v_op op_mod s_mod (v_bo (v_frz (v_op o_mul s_mul (b_var (pv 0)) (v_bo (v_ix rfl (v_bo (v_tup (ms := [false, false, false, false]) rfl (a_sh (v_int) (a_sh (v_int) (a_sh (v_int) (a_sh (v_int) (a_nil))))))) (b_var (pv 1)) (fun _ _ => rfl)))))) (v_bo (v_ix rfl (v_bo (v_tup (ms := [false, false, false, false]) rfl (a_sh (v_int) (a_sh (v_int) (a_sh (v_int) (a_sh (v_int) (a_nil))))))) (b_var (pv 1)) (fun _ _ => rfl)))))
theorem ok_law_mixed (T : Txt κ mg) : VFn P w κ mg base "_law_mixed" 1 [true, true] g_law_mixed := by
  obtain ⟨f, fd, F, hm⟩ := T.d_law_mixed
  exact ⟨f, fd, ["_law_cell", "_law_k"], hm, F.kp, fn_law_mixed F T, F.binds (ps := ["_law_cell", "_law_k"]) fun _ _ _ _ _ _ us hl => match us, hl with | [_, _], _ => rfl⟩
abbrev s_law_word : Stmt := topS 97
theorem sc_law_word : FnScope ["_law_cell", "_law_letters_here", "_law_most", "_law_size", "_law_number", "_law_word_here", "_law_k"] ["_law_cell", "_law_letters_here", "_law_most"] (defScope s_law_word) := ⟨rfl, rfl, rfl, by decide +kernel, rfl, by decide +kernel, by decide +kernel⟩
theorem fn_law_word {f : Addr} {fd : FuncData} (F : Fun κ.K "_law_word" "_law_word" s_law_word f fd) (T : Txt κ mg) : FnOk P w κ.K mg base (L2.CX P w) 1 f fd ["_law_cell", "_law_letters_here", "_law_most"] (spV κ [true, true, true] g_law_word) := by
  have sc := sc_law_word
  refine F.okX sc (fun vs H Q E h => spV_len h) fun cdv A outer s H vs Q E hr h => ⟨tS κ (fun c d _ H' => E c d H') b_law_word, ?_, v_end (k := 4) rfl h⟩
  have tk : Takes (cxOf (L2.CX P w) P w κ.K mg base ["_law_cell", "_law_letters_here", "_law_most", "_law_size", "_law_number", "_law_word_here", "_law_k"] "_law_word" (defScope s_law_word) f cdv A outer s H E) (fun c d _ H' => E c d H') := takes_of rfl rfl rfl rfl
  have hp := passes_of (X := cxOf (L2.CX P w) P w κ.K mg base ["_law_cell", "_law_letters_here", "_law_most", "_law_size", "_law_number", "_law_word_here", "_law_k"] "_law_word" (defScope s_law_word) f cdv A outer s H E) rfl
  exact s_cons (s_asg (i := 3) sc.nd rfl (by first | exact Or.inl rfl | exact Or.inr rfl) (v_op op_mod s_mod (b_var (pv 0)) (v_bo (v_frz (v_op o_add s_add (b_var (pv 2)) (v_bo (v_int))))))) (s_cons (s_asg (i := 4) sc.nd rfl (by first | exact Or.inl rfl | exact Or.inr rfl) (v_op op_mod s_mod (v_bo (v_frz (v_op op_fdivW s_div (b_var (pv 0)) (v_bo (v_frz (v_op o_add s_add (b_var (pv 2)) (v_bo (v_int)))))))) (v_bo (v_int)))) (s_cons (s_asg (i := 5) sc.nd rfl (by first | exact Or.inl rfl | exact Or.inr rfl) (v_sh (v_str (by rfl)))) (s_cons (s_for hp rfl (i_rg1 rfl rfl T.z_range (a_bo (b_var (pv 3)) (a_nil))) (pg_name (i := 6) sc.nd rfl (by first | exact Or.inl rfl | exact Or.inr rfl)) (tg_name 6) (s_cons (s_asg (i := 4) sc.nd rfl (by first | exact Or.inl rfl | exact Or.inr rfl) (v_op op_mod s_mod (v_bo (v_frz (v_op o_add s_add (v_bo (v_frz (v_op o_mul s_mul (b_var (pv 4)) (v_bo (v_int))))) (v_bo (v_int))))) (v_bo (v_int)))) (s_one (s_asg (i := 5) sc.nd rfl (by first | exact Or.inl rfl | exact Or.inr rfl) (v_op o_add s_add (b_var (pv 5)) (v_bo (v_ix rfl (b_var (pv 1)) (v_bo (v_frz (v_op op_mod s_mod (v_bo (v_frz (v_op op_fdivW s_div (b_var (pv 4)) (v_bo (v_int))))) (v_bo (v_frz (v_callB call_len s_len rfl T.z_len PySem.boot_len (a_bo (b_var (pv 1)) (a_nil)))))))) (fun _ _ => rfl)))))))) (s_one (s_retV (pv 5))))))
theorem ok_law_word (T : Txt κ mg) : VFn P w κ mg base "_law_word" 1 [true, true, true] g_law_word := by
  obtain ⟨f, fd, F, hm⟩ := T.d_law_word
  exact ⟨f, fd, ["_law_cell", "_law_letters_here", "_law_most"], hm, F.kp, fn_law_word F T, F.binds (ps := ["_law_cell", "_law_letters_here", "_law_most"]) fun _ _ _ _ _ _ us hl => match us, hl with | [_, _, _], _ => rfl⟩
abbrev s_law_pact : Stmt := topS 98
theorem sc_law_pact : FnScope ["_law_cell", "_law_letters_here", "_law_most"] ["_law_cell", "_law_letters_here", "_law_most"] (defScope s_law_pact) := ⟨rfl, rfl, rfl, by decide +kernel, rfl, by decide +kernel, by decide +kernel⟩
theorem fn_law_pact {f : Addr} {fd : FuncData} (F : Fun κ.K "_law_pact" "_law_pact" s_law_pact f fd) (T : Txt κ mg) (K_law_word : VFn P w κ mg base "_law_word" 1 [true, true, true] g_law_word) : FnOk P w κ.K mg base (L2.CX P w) 2 f fd ["_law_cell", "_law_letters_here", "_law_most"] (spV κ [true, true, true] g_law_pact) := by
  have sc := sc_law_pact
  refine F.okX sc (fun vs H Q E h => spV_len h) fun cdv A outer s H vs Q E hr h => ⟨tS κ (fun c d _ H' => E c d H') b_law_pact, ?_, v_end (k := 0) rfl h⟩
  have tk : Takes (cxOf (L2.CX P w) P w κ.K mg base ["_law_cell", "_law_letters_here", "_law_most"] "_law_pact" (defScope s_law_pact) f cdv A outer s H E) (fun c d _ H' => E c d H') := takes_of rfl rfl rfl rfl
  have hp := passes_of (X := cxOf (L2.CX P w) P w κ.K mg base ["_law_cell", "_law_letters_here", "_law_most"] "_law_pact" (defScope s_law_pact) f cdv A outer s H E) rfl
  exact s_one (s_ret (v_sh (v_tup (ms := [false, false]) rfl (a_sh (v_frz (v_call K_law_word rfl (hr.mono (by decide)) tk rfl (a_bo (b_var (pv 0)) (a_bo (b_var (pv 1)) (a_bo (b_var (pv 2)) (a_nil)))))) (a_sh (v_frz (v_call K_law_word rfl (hr.mono (by decide)) tk rfl (a_bo (v_bo (v_frz (v_op op_mod s_mod (v_bo (v_frz (v_op o_mul s_mul (b_var (pv 0)) (v_bo (v_int))))) (v_bo (v_int))))) (a_bo (b_var (pv 1)) (a_bo (b_var (pv 2)) (a_nil)))))) (a_nil))))))
theorem ok_law_pact (T : Txt κ mg) (K_law_word : VFn P w κ mg base "_law_word" 1 [true, true, true] g_law_word) : VFn P w κ mg base "_law_pact" 2 [true, true, true] g_law_pact := by
  obtain ⟨f, fd, F, hm⟩ := T.d_law_pact
  exact ⟨f, fd, ["_law_cell", "_law_letters_here", "_law_most"], hm, F.kp, fn_law_pact F T K_law_word, F.binds (ps := ["_law_cell", "_law_letters_here", "_law_most"]) fun _ _ _ _ _ _ us hl => match us, hl with | [_, _, _], _ => rfl⟩
abbrev s_law_shown : Stmt := topS 100
theorem sc_law_shown : FnScope ["_law_word_here"] ["_law_word_here"] (defScope s_law_shown) := ⟨rfl, rfl, rfl, by decide +kernel, rfl, by decide +kernel, by decide +kernel⟩
theorem fn_law_shown {f : Addr} {fd : FuncData} (F : Fun κ.K "_law_shown" "_law_shown" s_law_shown f fd) (T : Txt κ mg) : FnOk P w κ.K mg base (L2.CX P w) 1 f fd ["_law_word_here"] (spV κ [false] g_law_shown) := by
  have sc := sc_law_shown
  refine F.okX sc (fun vs H Q E h => spV_len h) fun cdv A outer s H vs Q E hr h => ⟨tS κ (fun c d _ H' => E c d H') b_law_shown, ?_, v_end (k := 0) rfl h⟩
  have tk : Takes (cxOf (L2.CX P w) P w κ.K mg base ["_law_word_here"] "_law_shown" (defScope s_law_shown) f cdv A outer s H E) (fun c d _ H' => E c d H') := takes_of rfl rfl rfl rfl
  have hp := passes_of (X := cxOf (L2.CX P w) P w κ.K mg base ["_law_word_here"] "_law_shown" (defScope s_law_shown) f cdv A outer s H E) rfl
  exact s_cons (s_if (t_cmp (o_eq rfl hr.units) s_eq (b_var (pv 0)) (v_bo (v_str (by rfl))) (nomark _)) (s_one (s_ret (v_sh (v_str (by rfl))))) (s_nil)) (s_one (s_retV (pv 0)))
theorem ok_law_shown (T : Txt κ mg) : VFn P w κ mg base "_law_shown" 1 [false] g_law_shown := by
  obtain ⟨f, fd, F, hm⟩ := T.d_law_shown
  exact ⟨f, fd, ["_law_word_here"], hm, F.kp, fn_law_shown F T, F.binds (ps := ["_law_word_here"]) fun _ _ _ _ _ _ us hl => match us, hl with | [_], _ => rfl⟩
abbrev s_law_row : Stmt := topS 102
theorem sc_law_row : FnScope ["_law_cell", "_law_letters_here", "_law_way", "_law_weights", "_law_one", "_law_other", "_law_k"] ["_law_cell", "_law_letters_here"] (defScope s_law_row) := ⟨rfl, rfl, rfl, by decide +kernel, rfl, by decide +kernel, by decide +kernel⟩
theorem fn_law_row {f : Addr} {fd : FuncData} (F : Fun κ.K "_law_row" "_law_row" s_law_row f fd) (T : Txt κ mg) (K_law_mixed : VFn P w κ mg base "_law_mixed" 1 [true, true] g_law_mixed) (K_law_letters : VFn P w κ mg base "_law_letters" 1 [true, true] g_law_letters) (K_law_pact : VFn P w κ mg base "_law_pact" 2 [true, true, true] g_law_pact) (K_law_shown : VFn P w κ mg base "_law_shown" 1 [false] g_law_shown) : FnOk P w κ.K mg base (L2.CX P w) 3 f fd ["_law_cell", "_law_letters_here"] (spV κ [true, true] g_law_row) := by
  have sc := sc_law_row
  refine F.okX sc (fun vs H Q E h => spV_len h) fun cdv A outer s H vs Q E hr h => ⟨tS κ (fun c d _ H' => E c d H') b_law_row, ?_, v_end (k := 5) rfl h⟩
  have tk : Takes (cxOf (L2.CX P w) P w κ.K mg base ["_law_cell", "_law_letters_here", "_law_way", "_law_weights", "_law_one", "_law_other", "_law_k"] "_law_row" (defScope s_law_row) f cdv A outer s H E) (fun c d _ H' => E c d H') := takes_of rfl rfl rfl rfl
  have hp := passes_of (X := cxOf (L2.CX P w) P w κ.K mg base ["_law_cell", "_law_letters_here", "_law_way", "_law_weights", "_law_one", "_law_other", "_law_k"] "_law_row" (defScope s_law_row) f cdv A outer s H E) rfl
  exact s_cons (s_asg (i := 2) sc.nd rfl (by first | exact Or.inl rfl | exact Or.inr rfl) (v_op op_mod s_mod (b_var (pv 0)) (v_bo (v_int)))) (s_cons (s_if (PW.pt (w_or (t_cmp (o_eq rfl hr.units) s_eq (b_var (pv 2)) (v_bo (v_int)) (nomark _)) (w_or1 (t_cmp (o_eq rfl hr.units) s_eq (b_var (pv 2)) (v_bo (v_int)) (nomark _))))) (s_one (s_ret (v_sh (v_str (by rfl))))) (s_nil)) (s_cons (s_if (t_cmp (o_eq rfl hr.units) s_eq (b_var (pv 2)) (v_bo (v_int)) (nomark _)) (s_one (s_ret (v_sh (v_ix rfl (v_bo (v_tup (ms := [false, false]) rfl (a_sh (v_str (by rfl)) (a_sh (v_str (by rfl)) (a_nil))))) (v_bo (v_frz (v_op op_mod s_mod (v_bo (v_frz (v_op op_fdivW s_div (b_var (pv 0)) (v_bo (v_int))))) (v_bo (v_int))))) (fun _ _ => rfl))))) (s_nil)) (s_cons (s_if (t_cmp (o_eq rfl hr.units) s_eq (b_var (pv 2)) (v_bo (v_int)) (nomark _)) (s_cons (s_lc (i := 3) (own := [("_law_k", 6)]) (vs := [6]) rfl sc.nd rfl rfl rfl (sw_true rfl rfl rfl (by decide +kernel)) (i_rg1 rfl rfl T.z_range (a_bo (v_bo (v_frz (v_callB call_len s_len rfl T.z_len PySem.boot_len (a_bo (b_var (pv 1)) (a_nil))))) (a_nil))) (blkOk_by (own := [("_law_k", 6)]) (N := ["_law_cell", "_law_letters_here", "_law_way", "_law_weights", "_law_one", "_law_other", "_law_k"]) (sc := defScope s_law_row) (by decide +kernel)) (fun _ _ _ _ _ => pg_name (i := 6) sc.nd rfl (by first | exact Or.inl rfl | exact Or.inr rfl)) (to_name 6 rfl) (fun _ _ _ _ _ => pts_yes) (fun _ _ _ _ _ => v_frz (v_callTy call_str_int s_str rfl T.z_str (by decide +kernel) (a_bo (v_bo (v_frz (v_op o_add s_add (v_bo (v_int)) (v_bo (v_frz (v_op op_mod s_mod (v_bo (v_frz (v_call K_law_mixed rfl (hr.mono (by decide)) takes0 rfl (a_bo (v_bo (v_frz (v_op o_add s_add (b_var (pv 0)) (b_var (pv 6))))) (a_bo (v_bo (v_frz (v_op op_mod s_mod (b_var (pv 6)) (v_bo (v_int))))) (a_nil)))))) (v_bo (v_ix rfl (v_bo (v_tup (ms := [false, false]) rfl (a_sh (v_int) (a_sh (v_int) (a_nil))))) (v_bo (v_frz (v_op op_mod s_mod (v_bo (v_frz (v_op op_fdivW s_div (b_var (pv 0)) (v_bo (v_int))))) (v_bo (v_int))))) (fun _ _ => rfl))))))))) (a_nil))))) (s_one (s_ret (v_op o_add s_add (v_bo (v_str (by rfl))) (v_bo (v_frz (v_join (v_bo (v_str (by rfl))) (b_var (pv 3))))))))) (s_nil)) (s_cons (s_if (PW.pt (w_and (t_cmp (o_eq rfl hr.units) s_eq (b_var (pv 2)) (v_bo (v_int)) (nomark _)) (w_and1 (t_cmp (o_eq rfl hr.units) s_eq (v_bo (v_frz (v_op op_mod s_mod (v_bo (v_frz (v_op op_fdivW s_div (b_var (pv 0)) (v_bo (v_int))))) (v_bo (v_int))))) (v_bo (v_int)) (nomark _))))) (s_one (s_ret (v_op o_add s_add (v_bo (v_str (by rfl))) (v_bo (v_frz (v_call K_law_letters rfl (hr.mono (by decide)) tk rfl (a_bo (v_bo (v_frz (v_call K_law_mixed rfl (hr.mono (by decide)) tk rfl (a_bo (b_var (pv 0)) (a_bo (v_bo (v_int)) (a_nil)))))) (a_bo (v_bo (v_int)) (a_nil))))))))) (s_nil)) (s_cons (s_tg (pg_tup rfl (pgs_cons (pg_name (i := 4) sc.nd rfl (by first | exact Or.inl rfl | exact Or.inr rfl)) (pgs_cons (pg_name (i := 5) sc.nd rfl (by first | exact Or.inl rfl | exact Or.inr rfl)) (pgs_nil)))) (tg_tup [4, 5] rfl) (im (v_frz (v_call K_law_pact rfl (hr.mono (by decide)) tk rfl (a_bo (v_bo (v_frz (v_op op_fdivW s_div (b_var (pv 0)) (v_bo (v_int))))) (a_bo (b_var (pv 1)) (a_bo (v_bo (v_int)) (a_nil)))))))) (s_one (s_ret (v_op o_add s_add (v_bo (v_frz (v_op o_add s_add (v_bo (v_frz (v_op o_add s_add (v_bo (v_str (by rfl))) (v_bo (v_frz (v_call K_law_shown rfl (hr.mono (by decide)) tk rfl (a_sh (v_var (pv 4)) (a_nil)))))))) (v_bo (v_str (by rfl)))))) (v_bo (v_frz (v_call K_law_shown rfl (hr.mono (by decide)) tk rfl (a_sh (v_var (pv 5)) (a_nil)))))))))))))
theorem ok_law_row (T : Txt κ mg) (K_law_mixed : VFn P w κ mg base "_law_mixed" 1 [true, true] g_law_mixed) (K_law_letters : VFn P w κ mg base "_law_letters" 1 [true, true] g_law_letters) (K_law_pact : VFn P w κ mg base "_law_pact" 2 [true, true, true] g_law_pact) (K_law_shown : VFn P w κ mg base "_law_shown" 1 [false] g_law_shown) : VFn P w κ mg base "_law_row" 3 [true, true] g_law_row := by
  obtain ⟨f, fd, F, hm⟩ := T.d_law_row
  exact ⟨f, fd, ["_law_cell", "_law_letters_here"], hm, F.kp, fn_law_row F T K_law_mixed K_law_letters K_law_pact K_law_shown, F.binds (ps := ["_law_cell", "_law_letters_here"]) fun _ _ _ _ _ _ us hl => match us, hl with | [_, _], _ => rfl⟩
abbrev s_law_told : Stmt := topS 101
theorem sc_law_told : FnScope ["_law_desk", "_law_row_here", "_law_answer", "error"] ["_law_desk", "_law_row_here"] (defScope s_law_told) := ⟨rfl, rfl, rfl, by decide +kernel, rfl, by decide +kernel, by decide +kernel⟩
theorem fn_law_told {f : Addr} {fd : FuncData} (F : Fun κ.K "_law_told" "_law_told" s_law_told f fd) (T : Txt κ mg) (I_told : VMtI P w κ mg base 4 "told" 6 [false] g_Desk_told) : FnOk P w κ.K mg base (L2.CX P w) 7 f fd ["_law_desk", "_law_row_here"] (spI κ 0 [false] g_law_told) := by
  have sc := sc_law_told
  refine F.okX sc (fun vs H Q E h => spI_len h) fun cdv A outer s H vs Q E hr h => ⟨tS κ (fun c d _ H' => E c d H') b_law_told, ?_, v_endI (k := 2) rfl h⟩
  have tk : Takes (cxOf (L2.CX P w) P w κ.K mg base ["_law_desk", "_law_row_here", "_law_answer", "error"] "_law_told" (defScope s_law_told) f cdv A outer s H E) (fun c d _ H' => E c d H') := takes_of rfl rfl rfl rfl
  have hp := passes_of (X := cxOf (L2.CX P w) P w κ.K mg base ["_law_desk", "_law_row_here", "_law_answer", "error"] "_law_told" (defScope s_law_told) f cdv A outer s H E) rfl
  exact s_cons (s_asg (i := 2) sc.nd rfl (by first | exact Or.inl rfl | exact Or.inr rfl) (v_sh (v_non))) (s_cons (s_tryAs (h := 0) (i := 3) (xs := xs) (mb := y1_law_told) (ms := z1_law_told) rfl rfl sc.nd rfl rfl rfl ⟨rfl, by decide, Or.inl T.g_LetterError⟩ T.x_LetterError tk (fun W pn xe tk hp => s_one (s_asgI (i := 2) sc.nd rfl (by first | exact Or.inl rfl | exact Or.inr rfl) (i_methI (i := 0) (ms := [false]) I_told rfl rfl (hr.mono (by decide)) tk (pv 0) (a_sh (v_var (pv 1)) (a_nil))))) (fun a oe cls d pn hz hf => s_cons (s_asg (i := 2) sc.nd rfl (by first | exact Or.inl rfl | exact Or.inr rfl) (v_sh (v_tup (ms := [false, false]) rfl (a_sh (v_isX rfl T.isB T.i_NoRow hz hf rfl T.z_isinstance (.own _) (pe_glob rfl T.g_NoRow rfl) (pv 3)) (a_sh (v_isX rfl T.isB T.i_TooMany hz hf rfl T.z_isinstance (.own _) (pe_glob rfl T.g_TooMany rfl) (pv 3)) (a_nil)))))) (s_one (s_if (t_tru rfl (v_bo (v_isXT rfl T.isB T.p_NoOrder_NoWord hz hf rfl T.z_isinstance (.own _) (.own _) (pe_glob rfl T.g_NoOrder rfl) (pe_glob rfl T.g_NoWord rfl) (pv 3)))) (s_one (s_asg (i := 2) sc.nd rfl (by first | exact Or.inl rfl | exact Or.inr rfl) (v_sh (v_tup (ms := [false, false]) rfl (a_sh (v_bl) (a_sh (v_bl) (a_nil))))))) (s_nil))))) (s_one (s_retI (im (v_sh (v_var (pv 2)))))))
theorem ok_law_told (T : Txt κ mg) (I_told : VMtI P w κ mg base 4 "told" 6 [false] g_Desk_told) : VFnI P w κ mg base "_law_told" 7 0 [false] g_law_told := by
  obtain ⟨f, fd, F, hm⟩ := T.d_law_told
  exact ⟨f, fd, ["_law_desk", "_law_row_here"], hm, F.kp, fn_law_told F T I_told, F.binds (ps := ["_law_desk", "_law_row_here"]) fun _ _ _ _ _ _ us hl => match us, hl with | [_, _], _ => rfl⟩
abbrev s_law_due : Stmt := topS 103
theorem sc_law_due : FnScope ["_law_row_here", "_law_pacts"] ["_law_row_here", "_law_pacts"] (defScope s_law_due) := ⟨rfl, rfl, rfl, by decide +kernel, rfl, by decide +kernel, by decide +kernel⟩
theorem fn_law_due {f : Addr} {fd : FuncData} (F : Fun κ.K "_law_due" "_law_due" s_law_due f fd) (T : Txt κ mg) : FnOk P w κ.K mg base (L2.CX P w) 1 f fd ["_law_row_here", "_law_pacts"] (spV κ [false, true] g_law_due) := by
  have sc := sc_law_due
  refine F.okX sc (fun vs H Q E h => spV_len h) fun cdv A outer s H vs Q E hr h => ⟨tS κ (fun c d _ H' => E c d H') b_law_due, ?_, v_end (k := 0) rfl h⟩
  have tk : Takes (cxOf (L2.CX P w) P w κ.K mg base ["_law_row_here", "_law_pacts"] "_law_due" (defScope s_law_due) f cdv A outer s H E) (fun c d _ H' => E c d H') := takes_of rfl rfl rfl rfl
  have hp := passes_of (X := cxOf (L2.CX P w) P w κ.K mg base ["_law_row_here", "_law_pacts"] "_law_due" (defScope s_law_due) f cdv A outer s H E) rfl
  exact s_cons (s_if (t_cmp (o_eq rfl hr.units) s_eq (b_var (pv 0)) (v_bo (v_str (by rfl))) (nomark _)) (s_cons (s_if (t_cmp (o_eq rfl hr.units) s_eq (v_bo (v_frz (v_callB call_len s_len rfl T.z_len PySem.boot_len (a_bo (b_var (pv 1)) (a_nil))))) (v_bo (v_int)) (nomark _)) (s_one (s_ret (v_sh (v_tup (ms := [false, false]) rfl (a_sh (v_bl) (a_sh (v_bl) (a_nil))))))) (s_nil)) (s_one (s_ret (v_sh (v_ix rfl (b_var (pv 1)) (v_bo (v_neg (v_int))) (fun _ _ => rfl)))))) (s_nil)) (s_cons (s_if (t_tru rfl (v_bo (v_frz (v_starts (b_var (pv 0)) (v_bo (v_str (by rfl))))))) (s_cons (s_if (t_cmp (o_eq rfl hr.units) s_eq (v_bo (v_frz (v_callB call_len s_len rfl T.z_len PySem.boot_len (a_bo (b_var (pv 1)) (a_nil))))) (v_bo (v_int)) (nomark _)) (s_one (s_ret (v_sh (v_tup (ms := [false, false]) rfl (a_sh (v_bl) (a_sh (v_bl) (a_nil))))))) (s_nil)) (s_one (s_ret (v_op o_add s_add (v_bo (v_str (by rfl))) (v_bo (v_frz (v_callTy call_str_int s_str rfl T.z_str (by decide +kernel) (a_bo (v_bo (v_frz (v_callB call_len s_len rfl T.z_len PySem.boot_len (a_bo (b_var (pv 1)) (a_nil))))) (a_nil))))))))) (s_nil)) (s_one (s_retV (pv 0))))
theorem ok_law_due (T : Txt κ mg) : VFn P w κ mg base "_law_due" 1 [false, true] g_law_due := by
  obtain ⟨f, fd, F, hm⟩ := T.d_law_due
  exact ⟨f, fd, ["_law_row_here", "_law_pacts"], hm, F.kp, fn_law_due F T, F.binds (ps := ["_law_row_here", "_law_pacts"]) fun _ _ _ _ _ _ us hl => match us, hl with | [_, _], _ => rfl⟩
abbrev s_law : Stmt := topS 104
theorem sc_law : FnScope ["_law_script", "_law_desk", "_law_letters_here", "_law_pacts", "_law_cell", "_law_row_here"] ["_law_script"] (defScope s_law) := ⟨rfl, rfl, rfl, by decide +kernel, rfl, by decide +kernel, by decide +kernel⟩
theorem fn_law {f : Addr} {fd : FuncData} (F : Fun κ.K "law" "law" s_law f fd) (T : Txt κ mg) (N_Desk : VMk P w κ mg base "Desk" 4 1 [] g_Desk_init) (K_law_letters : VFn P w κ mg base "_law_letters" 1 [true, true] g_law_letters) (K_law_cell_at : VFn P w κ mg base "_law_cell_at" 1 [true, true] g_law_cell_at) (I_told : VMtI P w κ mg base 4 "told" 6 [false] g_Desk_told) (K_law_row : VFn P w κ mg base "_law_row" 3 [true, true] g_law_row) (K_law_told : VFnI P w κ mg base "_law_told" 7 0 [false] g_law_told) (K_law_due : VFn P w κ mg base "_law_due" 1 [false, true] g_law_due) : FnOk P w κ.K mg base (L2.CX P w) 8 f fd ["_law_script"] (spV κ [true] g_law) := by
  have sc := sc_law
  refine F.okX sc (fun vs H Q E h => spV_len h) fun cdv A outer s H vs Q E hr h => ⟨tS κ (fun c d _ H' => E c d H') b_law, ?_, v_end (k := 5) rfl h⟩
  have tk : Takes (cxOf (L2.CX P w) P w κ.K mg base ["_law_script", "_law_desk", "_law_letters_here", "_law_pacts", "_law_cell", "_law_row_here"] "law" (defScope s_law) f cdv A outer s H E) (fun c d _ H' => E c d H') := takes_of rfl rfl rfl rfl
  have hp := passes_of (X := cxOf (L2.CX P w) P w κ.K mg base ["_law_script", "_law_desk", "_law_letters_here", "_law_pacts", "_law_cell", "_law_row_here"] "law" (defScope s_law) f cdv A outer s H E) rfl
  exact s_cons (s_asg (i := 1) sc.nd rfl (by first | exact Or.inl rfl | exact Or.inr rfl) (v_make0 N_Desk rfl (hr.mono (by decide)) tk rfl)) (s_cons (s_asg (i := 2) sc.nd rfl (by first | exact Or.inl rfl | exact Or.inr rfl) (v_call K_law_letters rfl (hr.mono (by decide)) tk rfl (a_bo (v_bo (v_frz (v_call K_law_cell_at rfl (hr.mono (by decide)) tk rfl (a_bo (b_var (pv 0)) (a_bo (v_bo (v_int)) (a_nil)))))) (a_bo (v_bo (v_int)) (a_nil))))) (s_cons (s_ifI (it_cmp (o_ne rfl hr.units) s_ne (i_frz (i_methI (i := 1) (ms := [false]) I_told rfl rfl (hr.mono (by decide)) tk (pv 1) (a_sh (v_frz (v_op o_add s_add (v_bo (v_str (by rfl))) (b_var (pv 2)))) (a_nil)))) (im (v_frz (v_op o_add s_add (v_bo (v_str (by rfl))) (b_var (pv 2))))) (nomark _)) (s_one (s_ret (v_sh (v_bl)))) (s_nil)) (s_cons (s_asg (i := 3) sc.nd rfl (by first | exact Or.inl rfl | exact Or.inr rfl) (v_lst (ms := []) rfl (a_nil))) (s_cons (s_for hp rfl (i_any rfl (v_frz (v_sl rfl (b_var (pv 0)) (o_some (v_bo (v_int))) (o_some (v_bo (v_int)))))) (pg_name (i := 4) sc.nd rfl (by first | exact Or.inl rfl | exact Or.inr rfl)) (tg_name 4) (s_cons (s_asg (i := 5) sc.nd rfl (by first | exact Or.inl rfl | exact Or.inr rfl) (v_call K_law_row rfl (hr.mono (by decide)) tk rfl (a_bo (b_var (pv 4)) (a_bo (b_var (pv 2)) (a_nil))))) (s_cons (s_ifI (it_cmp (o_ne rfl hr.units) s_ne (i_frz (i_callI (i := 1) (q0 := 0) (ms := [false]) K_law_told rfl rfl (hr.mono (by decide)) tk rfl (ai_here (i := 1) (pv 1) (a_sh (v_var (pv 5)) (a_nil))))) (im (v_frz (v_call K_law_due rfl (hr.mono (by decide)) tk rfl (a_sh (v_var (pv 5)) (a_bo (b_var (pv 3)) (a_nil)))))) (nomark _)) (s_one (s_ret (v_sh (v_bl)))) (s_nil)) (s_cons (s_if (t_cmp (o_eq rfl hr.units) s_eq (b_var (pv 5)) (v_bo (v_str (by rfl))) (nomark _)) (s_one (s_asg (i := 3) sc.nd rfl (by first | exact Or.inl rfl | exact Or.inr rfl) (v_sl rfl (b_var (pv 3)) (o_none) (o_some (v_bo (v_neg (v_int))))))) (s_nil)) (s_cons (s_if (PW.pt (w_and (t_tru rfl (v_bo (v_frz (v_starts (b_var (pv 5)) (v_bo (v_str (by rfl))))))) (w_and1 (t_cmp (o_ltA rfl hr.units) s_ltA (v_bo (v_frz (v_callB call_len s_len rfl T.z_len PySem.boot_len (a_bo (b_var (pv 3)) (a_nil))))) (v_bo (v_int)) (nomark _))))) (s_one (s_app (i := 3) rfl (pv 3) (v_var (pv 5)))) (s_nil)) (s_one (s_if (t_tru rfl (v_bo (v_frz (v_starts (b_var (pv 5)) (v_bo (v_str (by rfl))))))) (s_cons (s_asg (i := 2) sc.nd rfl (by first | exact Or.inl rfl | exact Or.inr rfl) (v_sl rfl (b_var (pv 5)) (o_some (v_bo (v_int))) (o_none))) (s_one (s_asg (i := 3) sc.nd rfl (by first | exact Or.inl rfl | exact Or.inr rfl) (v_lst (ms := []) rfl (a_nil))))) (s_nil)))))))) (s_cons (s_while fuel hp (t_cmp o_gt s_cm (v_bo (v_frz (v_callB call_len s_len rfl T.z_len PySem.boot_len (a_bo (b_var (pv 3)) (a_nil))))) (v_bo (v_int)) (nomark _)) (s_one (s_ifI (it_cmp (o_ne rfl hr.units) s_ne (i_frz (i_callI (i := 1) (q0 := 0) (ms := [false]) K_law_told rfl rfl (hr.mono (by decide)) tk rfl (ai_here (i := 1) (pv 1) (a_sh (v_str (by rfl)) (a_nil))))) (i_pop0 (i := 3) rfl (pv 3)) (nomark _)) (s_one (s_ret (v_sh (v_bl)))) (s_nil)))) (s_one (s_retX (i_sh (i_cmp (o_eq rfl hr.units) s_eq (i_frz (i_callI (i := 1) (q0 := 0) (ms := [false]) K_law_told rfl rfl (hr.mono (by decide)) tk rfl (ai_here (i := 1) (pv 1) (a_sh (v_str (by rfl)) (a_nil))))) (im (v_tup (ms := [false, false]) rfl (a_sh (v_bl) (a_sh (v_bl) (a_nil))))) (nomark _))))))))))
end
end Lw


set_option Elab.async false
set_option linter.all false
set_option maxRecDepth 100000
set_option maxHeartbeats 4000000
namespace Lw
open PySem L2 Vs
def kx (K : PySem.W.Frag) (C_System C_Order C_FromRight C_ByWeights C_Desk C_LetterError C_NoLetters C_NoWord C_NoPact C_NoOrder C_NoUse C_NotTurned C_TooFar C_TooMany C_NoRow : Addr) : Kx := ⟨K, fun i => match i with | 0 => C_System | 1 => C_Order | 2 => C_FromRight | 3 => C_ByWeights | 4 => C_Desk | _ => 0, fun i => match i with | 0 => ["order", "rules"] | 1 => ["letters"] | 2 => ["letters"] | 3 => ["letters", "weights"] | 4 => ["order", "pacts"] | _ => [], fun i => match i with | 0 => C_LetterError | 1 => C_NoLetters | 2 => C_NoWord | 3 => C_NoPact | 4 => C_NoOrder | 5 => C_NoUse | 6 => C_NotTurned | 7 => C_TooFar | 8 => C_TooMany | 9 => C_NoRow | _ => 0, xf, []⟩
theorem all_mk {l : PySem.W.OpenLaw} {w : World} {K : PySem.W.Frag} {h : Heap} {mg : Str → Option Value} {fa : Addr} (X : K.In h) (G : h.Ns mainGlobals mg) (hfa : mg "law" = some (.ref fa))
    {C_LetterError : Addr}
    {C_NoLetters : Addr}
    {C_NoWord : Addr}
    {C_NoPact : Addr}
    {C_NoOrder : Addr}
    {C_NoUse : Addr}
    {C_NotTurned : Addr}
    {C_TooFar : Addr}
    {C_TooMany : Addr}
    {C_NoRow : Addr}
    (xg_LetterError : PySem.W.nsIn K mainGlobals "LetterError" = some (some (.ref C_LetterError)))
    (xg_NoLetters : PySem.W.nsIn K mainGlobals "NoLetters" = some (some (.ref C_NoLetters)))
    (xg_NoWord : PySem.W.nsIn K mainGlobals "NoWord" = some (some (.ref C_NoWord)))
    (xg_NoPact : PySem.W.nsIn K mainGlobals "NoPact" = some (some (.ref C_NoPact)))
    (xg_NoOrder : PySem.W.nsIn K mainGlobals "NoOrder" = some (some (.ref C_NoOrder)))
    (xg_NoUse : PySem.W.nsIn K mainGlobals "NoUse" = some (some (.ref C_NoUse)))
    (xg_NotTurned : PySem.W.nsIn K mainGlobals "NotTurned" = some (some (.ref C_NotTurned)))
    (xg_TooFar : PySem.W.nsIn K mainGlobals "TooFar" = some (some (.ref C_TooFar)))
    (xg_TooMany : PySem.W.nsIn K mainGlobals "TooMany" = some (some (.ref C_TooMany)))
    (xg_NoRow : PySem.W.nsIn K mainGlobals "NoRow" = some (some (.ref C_NoRow)))
    (xe_NoLetters : PySem.W.excIn K C_NoLetters veB "ValueError.__new__" = true)
    (kp_NoLetters : PySem.W.keepIn K (.ref C_NoLetters) = true)
    (sb_NoLetters : PySem.W.subIn K (.ref C_NoLetters) (.type "BaseException") = some true)
    (ty_NoLetters : PySem.W.typeIn K (.ref C_NoLetters) = some (.type "type"))
    (xe_NoOrder : PySem.W.excIn K C_NoOrder veB "ValueError.__new__" = true)
    (kp_NoOrder : PySem.W.keepIn K (.ref C_NoOrder) = true)
    (sb_NoOrder : PySem.W.subIn K (.ref C_NoOrder) (.type "BaseException") = some true)
    (ty_NoOrder : PySem.W.typeIn K (.ref C_NoOrder) = some (.type "type"))
    (xe_NoRow : PySem.W.excIn K C_NoRow veB "ValueError.__new__" = true)
    (kp_NoRow : PySem.W.keepIn K (.ref C_NoRow) = true)
    (sb_NoRow : PySem.W.subIn K (.ref C_NoRow) (.type "BaseException") = some true)
    (ty_NoRow : PySem.W.typeIn K (.ref C_NoRow) = some (.type "type"))
    {nm_NoWord q_NoWord : Str}
    {N_NoWord : Addr}
    {bs_NoWord sub_NoWord bm_NoWord : List Value}
    {sn_NoWord : List Str}
    {ab_NoWord : Bool}
    {col_NoWord : Option Bool}
    {dd_NoWord : Option Addr}
    {ma_NoWord mb_NoWord mc_NoWord md_NoWord me_NoWord : Option Value}
    {fi_NoWord : Addr}
    {fod_NoWord fan_NoWord : Option Addr}
    {fsl_NoWord : Array (Option Value)}
    {foc_NoWord fdc_NoWord fpm_NoWord fcd_NoWord fct_NoWord : Value}
    {p1_NoWord p2_NoWord q1_NoWord q2_NoWord q3_NoWord q4_NoWord : Pos}
    (xL_NoWord : K.lookup C_NoWord = some (excClassObj nm_NoWord q_NoWord C_NoWord N_NoWord bs_NoWord bm_NoWord true sn_NoWord sub_NoWord ab_NoWord col_NoWord dd_NoWord ma_NoWord mb_NoWord mc_NoWord md_NoWord me_NoWord "ValueError.__new__"))
    (bv_NoWord : PySem.HandSPX.refsVE bm_NoWord = true)
    (sa_NoWord : PySem.W.findIn K (.ref C_NoWord) "__setattr__" = some (some (.builtin "object.__setattr__")))
    (ga_NoWord : PySem.W.findIn K (.ref C_NoWord) "__getattribute__" = some (some (.builtin "BaseException.__getattribute__")))
    (gg_NoWord : PySem.W.findIn K (.ref C_NoWord) "__getattr__" = some none)
    (nf_NoWord : PySem.W.findIn K (.ref C_NoWord) "place" = some none)
    (in_NoWord : PySem.W.findIn K (.ref C_NoWord) "__init__" = some (some (.ref fi_NoWord)))
    (tf_NoWord : PySem.W.typeIn K (.ref fi_NoWord) = some (.type "function"))
    (li_NoWord : K.lookup fi_NoWord = some ⟨foc_NoWord, fod_NoWord, .func (PySem.W.fnOf "__init__" "NoWord.__init__" (PySem.LowX_NoWord.iA p1_NoWord p2_NoWord) (PySem.LowX_NoWord.iB q1_NoWord q2_NoWord q3_NoWord q4_NoWord) PySem.LowX_NoWord.iS .none .none fdc_NoWord fpm_NoWord fan_NoWord fcd_NoWord fct_NoWord), fsl_NoWord⟩)
    (ci_NoWord : PySem.W.codeIn K fcd_NoWord "NoWord.__init__" = true)
    (kp_NoWord : PySem.W.keepIn K (.ref C_NoWord) = true)
    (sb_NoWord : PySem.W.subIn K (.ref C_NoWord) (.type "BaseException") = some true)
    (ty_NoWord : PySem.W.typeIn K (.ref C_NoWord) = some (.type "type"))
    (hd_NoWord : PySem.W.hasDictIn K C_NoWord = true)
    (ic_NoWord : PySem.W.isClsIn K C_NoWord = true)
    (su_NoWord_NoWord : PySem.W.subIn K (.ref C_NoWord) (.ref C_NoWord) = some true)
    (xe_NoPact : PySem.W.excIn K C_NoPact veB "ValueError.__new__" = true)
    (kp_NoPact : PySem.W.keepIn K (.ref C_NoPact) = true)
    (sb_NoPact : PySem.W.subIn K (.ref C_NoPact) (.type "BaseException") = some true)
    (ty_NoPact : PySem.W.typeIn K (.ref C_NoPact) = some (.type "type"))
    (xe_TooMany : PySem.W.excIn K C_TooMany veB "ValueError.__new__" = true)
    (kp_TooMany : PySem.W.keepIn K (.ref C_TooMany) = true)
    (sb_TooMany : PySem.W.subIn K (.ref C_TooMany) (.type "BaseException") = some true)
    (ty_TooMany : PySem.W.typeIn K (.ref C_TooMany) = some (.type "type"))
    (sb_LetterError : PySem.W.subIn K (.ref C_LetterError) (.type "BaseException") = some true)
    (ic_LetterError : PySem.W.isClsIn K C_LetterError = true)
    (ty_LetterError : PySem.W.typeIn K (.ref C_LetterError) = some (.type "type"))
    (su_LetterError_LetterError : PySem.W.subIn K (.ref C_LetterError) (.ref C_LetterError) = some true)
    (su_NoLetters_LetterError : PySem.W.subIn K (.ref C_NoLetters) (.ref C_LetterError) = some true)
    (su_NoWord_LetterError : PySem.W.subIn K (.ref C_NoWord) (.ref C_LetterError) = some true)
    (su_NoPact_LetterError : PySem.W.subIn K (.ref C_NoPact) (.ref C_LetterError) = some true)
    (su_NoOrder_LetterError : PySem.W.subIn K (.ref C_NoOrder) (.ref C_LetterError) = some true)
    (su_NoUse_LetterError : PySem.W.subIn K (.ref C_NoUse) (.ref C_LetterError) = some true)
    (su_NotTurned_LetterError : PySem.W.subIn K (.ref C_NotTurned) (.ref C_LetterError) = some true)
    (su_TooFar_LetterError : PySem.W.subIn K (.ref C_TooFar) (.ref C_LetterError) = some true)
    (su_TooMany_LetterError : PySem.W.subIn K (.ref C_TooMany) (.ref C_LetterError) = some true)
    (su_NoRow_LetterError : PySem.W.subIn K (.ref C_NoRow) (.ref C_LetterError) = some true)
    (xhn : PySem.W.specialIn K (.builtin "object.__class__") "__get__" = some (some (.builtin "getset_descriptor.__get__")))
    (xht : PySem.W.takesIn K (.builtin "object.__class__") = some true)
    (ga_LetterError : PySem.W.findIn K (.ref C_LetterError) "__getattribute__" = some (some (.builtin "BaseException.__getattribute__")))
    (gg_LetterError : PySem.W.findIn K (.ref C_LetterError) "__getattr__" = some none)
    (hc_LetterError : PySem.W.findIn K (.ref C_LetterError) "__class__" = some (some (.builtin "object.__class__")))
    (mo_LetterError : PySem.W.mroIn K C_LetterError (.type "object") = some true)
    (ic_TooMany : PySem.W.isClsIn K C_TooMany = true)
    (su_LetterError_TooMany : PySem.W.subIn K (.ref C_LetterError) (.ref C_TooMany) = some false)
    (ne_LetterError_TooMany : (Value.ref C_LetterError == Value.ref C_TooMany) = false)
    (ic_NoLetters : PySem.W.isClsIn K C_NoLetters = true)
    (ga_NoLetters : PySem.W.findIn K (.ref C_NoLetters) "__getattribute__" = some (some (.builtin "BaseException.__getattribute__")))
    (gg_NoLetters : PySem.W.findIn K (.ref C_NoLetters) "__getattr__" = some none)
    (hc_NoLetters : PySem.W.findIn K (.ref C_NoLetters) "__class__" = some (some (.builtin "object.__class__")))
    (mo_NoLetters : PySem.W.mroIn K C_NoLetters (.type "object") = some true)
    (su_NoLetters_TooMany : PySem.W.subIn K (.ref C_NoLetters) (.ref C_TooMany) = some false)
    (ne_NoLetters_TooMany : (Value.ref C_NoLetters == Value.ref C_TooMany) = false)
    (hc_NoWord : PySem.W.findIn K (.ref C_NoWord) "__class__" = some (some (.builtin "object.__class__")))
    (mo_NoWord : PySem.W.mroIn K C_NoWord (.type "object") = some true)
    (su_NoWord_TooMany : PySem.W.subIn K (.ref C_NoWord) (.ref C_TooMany) = some false)
    (ne_NoWord_TooMany : (Value.ref C_NoWord == Value.ref C_TooMany) = false)
    (ic_NoPact : PySem.W.isClsIn K C_NoPact = true)
    (ga_NoPact : PySem.W.findIn K (.ref C_NoPact) "__getattribute__" = some (some (.builtin "BaseException.__getattribute__")))
    (gg_NoPact : PySem.W.findIn K (.ref C_NoPact) "__getattr__" = some none)
    (hc_NoPact : PySem.W.findIn K (.ref C_NoPact) "__class__" = some (some (.builtin "object.__class__")))
    (mo_NoPact : PySem.W.mroIn K C_NoPact (.type "object") = some true)
    (su_NoPact_TooMany : PySem.W.subIn K (.ref C_NoPact) (.ref C_TooMany) = some false)
    (ne_NoPact_TooMany : (Value.ref C_NoPact == Value.ref C_TooMany) = false)
    (ic_NoOrder : PySem.W.isClsIn K C_NoOrder = true)
    (ga_NoOrder : PySem.W.findIn K (.ref C_NoOrder) "__getattribute__" = some (some (.builtin "BaseException.__getattribute__")))
    (gg_NoOrder : PySem.W.findIn K (.ref C_NoOrder) "__getattr__" = some none)
    (hc_NoOrder : PySem.W.findIn K (.ref C_NoOrder) "__class__" = some (some (.builtin "object.__class__")))
    (mo_NoOrder : PySem.W.mroIn K C_NoOrder (.type "object") = some true)
    (su_NoOrder_TooMany : PySem.W.subIn K (.ref C_NoOrder) (.ref C_TooMany) = some false)
    (ne_NoOrder_TooMany : (Value.ref C_NoOrder == Value.ref C_TooMany) = false)
    (ic_NoUse : PySem.W.isClsIn K C_NoUse = true)
    (ga_NoUse : PySem.W.findIn K (.ref C_NoUse) "__getattribute__" = some (some (.builtin "BaseException.__getattribute__")))
    (gg_NoUse : PySem.W.findIn K (.ref C_NoUse) "__getattr__" = some none)
    (sb_NoUse : PySem.W.subIn K (.ref C_NoUse) (.type "BaseException") = some true)
    (hc_NoUse : PySem.W.findIn K (.ref C_NoUse) "__class__" = some (some (.builtin "object.__class__")))
    (mo_NoUse : PySem.W.mroIn K C_NoUse (.type "object") = some true)
    (su_NoUse_TooMany : PySem.W.subIn K (.ref C_NoUse) (.ref C_TooMany) = some false)
    (ne_NoUse_TooMany : (Value.ref C_NoUse == Value.ref C_TooMany) = false)
    (ic_NotTurned : PySem.W.isClsIn K C_NotTurned = true)
    (ga_NotTurned : PySem.W.findIn K (.ref C_NotTurned) "__getattribute__" = some (some (.builtin "BaseException.__getattribute__")))
    (gg_NotTurned : PySem.W.findIn K (.ref C_NotTurned) "__getattr__" = some none)
    (sb_NotTurned : PySem.W.subIn K (.ref C_NotTurned) (.type "BaseException") = some true)
    (hc_NotTurned : PySem.W.findIn K (.ref C_NotTurned) "__class__" = some (some (.builtin "object.__class__")))
    (mo_NotTurned : PySem.W.mroIn K C_NotTurned (.type "object") = some true)
    (su_NotTurned_TooMany : PySem.W.subIn K (.ref C_NotTurned) (.ref C_TooMany) = some false)
    (ne_NotTurned_TooMany : (Value.ref C_NotTurned == Value.ref C_TooMany) = false)
    (ic_TooFar : PySem.W.isClsIn K C_TooFar = true)
    (ga_TooFar : PySem.W.findIn K (.ref C_TooFar) "__getattribute__" = some (some (.builtin "BaseException.__getattribute__")))
    (gg_TooFar : PySem.W.findIn K (.ref C_TooFar) "__getattr__" = some none)
    (sb_TooFar : PySem.W.subIn K (.ref C_TooFar) (.type "BaseException") = some true)
    (hc_TooFar : PySem.W.findIn K (.ref C_TooFar) "__class__" = some (some (.builtin "object.__class__")))
    (mo_TooFar : PySem.W.mroIn K C_TooFar (.type "object") = some true)
    (su_TooFar_TooMany : PySem.W.subIn K (.ref C_TooFar) (.ref C_TooMany) = some false)
    (ne_TooFar_TooMany : (Value.ref C_TooFar == Value.ref C_TooMany) = false)
    (ga_TooMany : PySem.W.findIn K (.ref C_TooMany) "__getattribute__" = some (some (.builtin "BaseException.__getattribute__")))
    (gg_TooMany : PySem.W.findIn K (.ref C_TooMany) "__getattr__" = some none)
    (hc_TooMany : PySem.W.findIn K (.ref C_TooMany) "__class__" = some (some (.builtin "object.__class__")))
    (mo_TooMany : PySem.W.mroIn K C_TooMany (.type "object") = some true)
    (ic_NoRow : PySem.W.isClsIn K C_NoRow = true)
    (ga_NoRow : PySem.W.findIn K (.ref C_NoRow) "__getattribute__" = some (some (.builtin "BaseException.__getattribute__")))
    (gg_NoRow : PySem.W.findIn K (.ref C_NoRow) "__getattr__" = some none)
    (hc_NoRow : PySem.W.findIn K (.ref C_NoRow) "__class__" = some (some (.builtin "object.__class__")))
    (mo_NoRow : PySem.W.mroIn K C_NoRow (.type "object") = some true)
    (su_NoRow_TooMany : PySem.W.subIn K (.ref C_NoRow) (.ref C_TooMany) = some false)
    (ne_NoRow_TooMany : (Value.ref C_NoRow == Value.ref C_TooMany) = false)
    (su_LetterError_NoRow : PySem.W.subIn K (.ref C_LetterError) (.ref C_NoRow) = some false)
    (ne_LetterError_NoRow : (Value.ref C_LetterError == Value.ref C_NoRow) = false)
    (su_NoLetters_NoRow : PySem.W.subIn K (.ref C_NoLetters) (.ref C_NoRow) = some false)
    (ne_NoLetters_NoRow : (Value.ref C_NoLetters == Value.ref C_NoRow) = false)
    (su_NoWord_NoRow : PySem.W.subIn K (.ref C_NoWord) (.ref C_NoRow) = some false)
    (ne_NoWord_NoRow : (Value.ref C_NoWord == Value.ref C_NoRow) = false)
    (su_NoPact_NoRow : PySem.W.subIn K (.ref C_NoPact) (.ref C_NoRow) = some false)
    (ne_NoPact_NoRow : (Value.ref C_NoPact == Value.ref C_NoRow) = false)
    (su_NoOrder_NoRow : PySem.W.subIn K (.ref C_NoOrder) (.ref C_NoRow) = some false)
    (ne_NoOrder_NoRow : (Value.ref C_NoOrder == Value.ref C_NoRow) = false)
    (su_NoUse_NoRow : PySem.W.subIn K (.ref C_NoUse) (.ref C_NoRow) = some false)
    (ne_NoUse_NoRow : (Value.ref C_NoUse == Value.ref C_NoRow) = false)
    (su_NotTurned_NoRow : PySem.W.subIn K (.ref C_NotTurned) (.ref C_NoRow) = some false)
    (ne_NotTurned_NoRow : (Value.ref C_NotTurned == Value.ref C_NoRow) = false)
    (su_TooFar_NoRow : PySem.W.subIn K (.ref C_TooFar) (.ref C_NoRow) = some false)
    (ne_TooFar_NoRow : (Value.ref C_TooFar == Value.ref C_NoRow) = false)
    (su_TooMany_NoRow : PySem.W.subIn K (.ref C_TooMany) (.ref C_NoRow) = some false)
    (ne_TooMany_NoRow : (Value.ref C_TooMany == Value.ref C_NoRow) = false)
    (su_LetterError_NoOrder : PySem.W.subIn K (.ref C_LetterError) (.ref C_NoOrder) = some false)
    (ne_LetterError_NoOrder : (Value.ref C_LetterError == Value.ref C_NoOrder) = false)
    (su_NoLetters_NoOrder : PySem.W.subIn K (.ref C_NoLetters) (.ref C_NoOrder) = some false)
    (ne_NoLetters_NoOrder : (Value.ref C_NoLetters == Value.ref C_NoOrder) = false)
    (su_NoWord_NoOrder : PySem.W.subIn K (.ref C_NoWord) (.ref C_NoOrder) = some false)
    (ne_NoWord_NoOrder : (Value.ref C_NoWord == Value.ref C_NoOrder) = false)
    (su_NoPact_NoOrder : PySem.W.subIn K (.ref C_NoPact) (.ref C_NoOrder) = some false)
    (ne_NoPact_NoOrder : (Value.ref C_NoPact == Value.ref C_NoOrder) = false)
    (su_NoUse_NoOrder : PySem.W.subIn K (.ref C_NoUse) (.ref C_NoOrder) = some false)
    (ne_NoUse_NoOrder : (Value.ref C_NoUse == Value.ref C_NoOrder) = false)
    (su_NotTurned_NoOrder : PySem.W.subIn K (.ref C_NotTurned) (.ref C_NoOrder) = some false)
    (ne_NotTurned_NoOrder : (Value.ref C_NotTurned == Value.ref C_NoOrder) = false)
    (su_TooFar_NoOrder : PySem.W.subIn K (.ref C_TooFar) (.ref C_NoOrder) = some false)
    (ne_TooFar_NoOrder : (Value.ref C_TooFar == Value.ref C_NoOrder) = false)
    (su_TooMany_NoOrder : PySem.W.subIn K (.ref C_TooMany) (.ref C_NoOrder) = some false)
    (ne_TooMany_NoOrder : (Value.ref C_TooMany == Value.ref C_NoOrder) = false)
    (su_NoRow_NoOrder : PySem.W.subIn K (.ref C_NoRow) (.ref C_NoOrder) = some false)
    (ne_NoRow_NoOrder : (Value.ref C_NoRow == Value.ref C_NoOrder) = false)
    (su_LetterError_NoWord : PySem.W.subIn K (.ref C_LetterError) (.ref C_NoWord) = some false)
    (ne_LetterError_NoWord : (Value.ref C_LetterError == Value.ref C_NoWord) = false)
    (su_NoLetters_NoWord : PySem.W.subIn K (.ref C_NoLetters) (.ref C_NoWord) = some false)
    (ne_NoLetters_NoWord : (Value.ref C_NoLetters == Value.ref C_NoWord) = false)
    (su_NoPact_NoWord : PySem.W.subIn K (.ref C_NoPact) (.ref C_NoWord) = some false)
    (ne_NoPact_NoWord : (Value.ref C_NoPact == Value.ref C_NoWord) = false)
    (su_NoOrder_NoWord : PySem.W.subIn K (.ref C_NoOrder) (.ref C_NoWord) = some false)
    (ne_NoOrder_NoWord : (Value.ref C_NoOrder == Value.ref C_NoWord) = false)
    (su_NoUse_NoWord : PySem.W.subIn K (.ref C_NoUse) (.ref C_NoWord) = some false)
    (ne_NoUse_NoWord : (Value.ref C_NoUse == Value.ref C_NoWord) = false)
    (su_NotTurned_NoWord : PySem.W.subIn K (.ref C_NotTurned) (.ref C_NoWord) = some false)
    (ne_NotTurned_NoWord : (Value.ref C_NotTurned == Value.ref C_NoWord) = false)
    (su_TooFar_NoWord : PySem.W.subIn K (.ref C_TooFar) (.ref C_NoWord) = some false)
    (ne_TooFar_NoWord : (Value.ref C_TooFar == Value.ref C_NoWord) = false)
    (su_TooMany_NoWord : PySem.W.subIn K (.ref C_TooMany) (.ref C_NoWord) = some false)
    (ne_TooMany_NoWord : (Value.ref C_TooMany == Value.ref C_NoWord) = false)
    (su_NoRow_NoWord : PySem.W.subIn K (.ref C_NoRow) (.ref C_NoWord) = some false)
    (ne_NoRow_NoWord : (Value.ref C_NoRow == Value.ref C_NoWord) = false)
    {f1 : Addr} {od1 an1 : Option Addr} {sl1 : Array (Option Value)} {oc1 kV1 dc1 pm1 cd1 ct1 : Value}
    {f2 : Addr} {od2 an2 : Option Addr} {sl2 : Array (Option Value)} {oc2 kV2 dc2 pm2 cd2 ct2 : Value}
    {f3 : Addr} {od3 an3 : Option Addr} {sl3 : Array (Option Value)} {oc3 kV3 dc3 pm3 cd3 ct3 : Value}
    {f4 : Addr} {od4 an4 : Option Addr} {sl4 : Array (Option Value)} {oc4 kV4 dc4 pm4 cd4 ct4 : Value}
    {f5 : Addr} {od5 an5 : Option Addr} {sl5 : Array (Option Value)} {oc5 kV5 dc5 pm5 cd5 ct5 : Value}
    {f6 : Addr} {od6 an6 : Option Addr} {sl6 : Array (Option Value)} {oc6 kV6 dc6 pm6 cd6 ct6 : Value}
    {f7 : Addr} {od7 an7 : Option Addr} {sl7 : Array (Option Value)} {oc7 kV7 dc7 pm7 cd7 ct7 : Value}
    {f8 : Addr} {od8 an8 : Option Addr} {sl8 : Array (Option Value)} {oc8 kV8 dc8 pm8 cd8 ct8 : Value}
    {f9 : Addr} {od9 an9 : Option Addr} {sl9 : Array (Option Value)} {oc9 kV9 dc9 pm9 cd9 ct9 : Value}
    {f10 : Addr} {od10 an10 : Option Addr} {sl10 : Array (Option Value)} {oc10 kV10 dc10 pm10 cd10 ct10 : Value}
    {T10 : Addr} {to10 : Option Addr} {tc10 : Value} {ts10 : Array (Option Value)} {tn10 : Nat} {tt10 : Tok}
    {f11 : Addr} {od11 an11 : Option Addr} {sl11 : Array (Option Value)} {oc11 kV11 dc11 pm11 cd11 ct11 : Value}
    {T11 : Addr} {to11 : Option Addr} {tc11 : Value} {ts11 : Array (Option Value)} {tn11 : Nat} {tt11 : Tok}
    {f12 : Addr} {od12 an12 : Option Addr} {sl12 : Array (Option Value)} {oc12 kV12 dc12 pm12 cd12 ct12 : Value}
    {T12 : Addr} {to12 : Option Addr} {tc12 : Value} {ts12 : Array (Option Value)} {tn12 : Nat} {tt12 : Tok}
    {f13 : Addr} {od13 an13 : Option Addr} {sl13 : Array (Option Value)} {oc13 kV13 dc13 pm13 cd13 ct13 : Value}
    {f14 : Addr} {od14 an14 : Option Addr} {sl14 : Array (Option Value)} {oc14 kV14 dc14 pm14 cd14 ct14 : Value}
    {f15 : Addr} {od15 an15 : Option Addr} {sl15 : Array (Option Value)} {oc15 kV15 dc15 pm15 cd15 ct15 : Value}
    {f16 : Addr} {od16 an16 : Option Addr} {sl16 : Array (Option Value)} {oc16 kV16 dc16 pm16 cd16 ct16 : Value}
    {f17 : Addr} {od17 an17 : Option Addr} {sl17 : Array (Option Value)} {oc17 kV17 dc17 pm17 cd17 ct17 : Value}
    {f18 : Addr} {od18 an18 : Option Addr} {sl18 : Array (Option Value)} {oc18 kV18 dc18 pm18 cd18 ct18 : Value}
    {f19 : Addr} {od19 an19 : Option Addr} {sl19 : Array (Option Value)} {oc19 kV19 dc19 pm19 cd19 ct19 : Value}
    {f20 : Addr} {od20 an20 : Option Addr} {sl20 : Array (Option Value)} {oc20 kV20 dc20 pm20 cd20 ct20 : Value}
    {f21 : Addr} {od21 an21 : Option Addr} {sl21 : Array (Option Value)} {oc21 kV21 dc21 pm21 cd21 ct21 : Value}
    {f22 : Addr} {od22 an22 : Option Addr} {sl22 : Array (Option Value)} {oc22 kV22 dc22 pm22 cd22 ct22 : Value}
    {f23 : Addr} {od23 an23 : Option Addr} {sl23 : Array (Option Value)} {oc23 kV23 dc23 pm23 cd23 ct23 : Value}
    {f24 : Addr} {od24 an24 : Option Addr} {sl24 : Array (Option Value)} {oc24 kV24 dc24 pm24 cd24 ct24 : Value}
    {f25 : Addr} {od25 an25 : Option Addr} {sl25 : Array (Option Value)} {oc25 kV25 dc25 pm25 cd25 ct25 : Value}
    {f26 : Addr} {od26 an26 : Option Addr} {sl26 : Array (Option Value)} {oc26 kV26 dc26 pm26 cd26 ct26 : Value}
    {f27 : Addr} {od27 an27 : Option Addr} {sl27 : Array (Option Value)} {oc27 kV27 dc27 pm27 cd27 ct27 : Value}
    {f28 : Addr} {od28 an28 : Option Addr} {sl28 : Array (Option Value)} {oc28 kV28 dc28 pm28 cd28 ct28 : Value}
    {f29 : Addr} {od29 an29 : Option Addr} {sl29 : Array (Option Value)} {oc29 kV29 dc29 pm29 cd29 ct29 : Value}
    {C_System : Addr}
    {C_Order : Addr}
    {C_FromRight : Addr}
    {C_ByWeights : Addr}
    {C_Desk : Addr}
    (cg_System : PySem.W.nsIn K mainGlobals "System" = some (some (.ref C_System)))
    (pg_System : PySem.W.plainGet K C_System Str.empty = true)
    (hd_System : PySem.W.hasDictIn K C_System = true)
    (po_System : PySem.W.plainOver K C_System = true)
    (sa_System : PySem.W.findIn K (.ref C_System) "__setattr__" = some (some (.builtin "object.__setattr__")))
    (na_System_order : PySem.W.findIn K (.ref C_System) "order" = some none)
    (cg_Desk : PySem.W.nsIn K mainGlobals "Desk" = some (some (.ref C_Desk)))
    (pg_Desk : PySem.W.plainGet K C_Desk Str.empty = true)
    (hd_Desk : PySem.W.hasDictIn K C_Desk = true)
    (po_Desk : PySem.W.plainOver K C_Desk = true)
    (sa_Desk : PySem.W.findIn K (.ref C_Desk) "__setattr__" = some (some (.builtin "object.__setattr__")))
    (na_Desk_order : PySem.W.findIn K (.ref C_Desk) "order" = some none)
    (na_Desk_pacts : PySem.W.findIn K (.ref C_Desk) "pacts" = some none)
    (cg_Order : PySem.W.nsIn K mainGlobals "Order" = some (some (.ref C_Order)))
    (pg_Order : PySem.W.plainGet K C_Order Str.empty = true)
    (hd_Order : PySem.W.hasDictIn K C_Order = true)
    (po_Order : PySem.W.plainOver K C_Order = true)
    (sa_Order : PySem.W.findIn K (.ref C_Order) "__setattr__" = some (some (.builtin "object.__setattr__")))
    (na_Order_letters : PySem.W.findIn K (.ref C_Order) "letters" = some none)
    (cg_FromRight : PySem.W.nsIn K mainGlobals "FromRight" = some (some (.ref C_FromRight)))
    (pg_FromRight : PySem.W.plainGet K C_FromRight Str.empty = true)
    (hd_FromRight : PySem.W.hasDictIn K C_FromRight = true)
    (po_FromRight : PySem.W.plainOver K C_FromRight = true)
    (sa_FromRight : PySem.W.findIn K (.ref C_FromRight) "__setattr__" = some (some (.builtin "object.__setattr__")))
    (na_FromRight_letters : PySem.W.findIn K (.ref C_FromRight) "letters" = some none)
    (cg_ByWeights : PySem.W.nsIn K mainGlobals "ByWeights" = some (some (.ref C_ByWeights)))
    (pg_ByWeights : PySem.W.plainGet K C_ByWeights Str.empty = true)
    (hd_ByWeights : PySem.W.hasDictIn K C_ByWeights = true)
    (po_ByWeights : PySem.W.plainOver K C_ByWeights = true)
    (sa_ByWeights : PySem.W.findIn K (.ref C_ByWeights) "__setattr__" = some (some (.builtin "object.__setattr__")))
    (na_ByWeights_letters : PySem.W.findIn K (.ref C_ByWeights) "letters" = some none)
    (na_ByWeights_weights : PySem.W.findIn K (.ref C_ByWeights) "weights" = some none)
    (mt_Order___init__ : PySem.W.findIn K (.ref C_Order) "__init__" = some (some (.ref f5)))
    (if5 : PySem.W.isFn K (.ref f5) = true)
    (l5 : K.lookup f5 = some ⟨oc5, od5, .func (PySem.W.fnOf "__init__" "Order.__init__" (defArgs (inClass (topS 77) 0)) (defBody (inClass (topS 77) 0)) (defScope (inClass (topS 77) 0)) .none kV5 dc5 pm5 an5 cd5 ct5), sl5⟩)
    (c5 : PySem.W.codeIn K cd5 "Order.__init__" = true)
    (k5 : PySem.W.keepIn K (.ref f5) = true)
    (rd_Order : PySem.W.readsIn K C_Order (.type "type") = true)
    (rg_Order : PySem.W.specialIn K (.ref C_Order) "__getattribute__" = some (some (.builtin "type.__getattribute__")))
    (fc_Order : PySem.W.findCls K (.ref C_Order) (.type "type") "__init__" = some (.val (.ref f5)))
    (mt_Desk_drop_row : PySem.W.findIn K (.ref C_Desk) "drop_row" = some (some (.ref f16)))
    (if16 : PySem.W.isFn K (.ref f16) = true)
    (l16 : K.lookup f16 = some ⟨oc16, od16, .func (PySem.W.fnOf "drop_row" "Desk.drop_row" (defArgs (inClass (topS 93) 5)) (defBody (inClass (topS 93) 5)) (defScope (inClass (topS 93) 5)) .none kV16 dc16 pm16 an16 cd16 ct16), sl16⟩)
    (c16 : PySem.W.codeIn K cd16 "Desk.drop_row" = true)
    (k16 : PySem.W.keepIn K (.ref f16) = true)
    (mt_Desk_letters_row : PySem.W.findIn K (.ref C_Desk) "letters_row" = some (some (.ref f6)))
    (if6 : PySem.W.isFn K (.ref f6) = true)
    (l6 : K.lookup f6 = some ⟨oc6, od6, .func (PySem.W.fnOf "letters_row" "Desk.letters_row" (defArgs (inClass (topS 93) 2)) (defBody (inClass (topS 93) 2)) (defScope (inClass (topS 93) 2)) .none kV6 dc6 pm6 an6 cd6 ct6), sl6⟩)
    (c6 : PySem.W.codeIn K cd6 "Desk.letters_row" = true)
    (k6 : PySem.W.keepIn K (.ref f6) = true)
    (mt_Desk_order_row : PySem.W.findIn K (.ref C_Desk) "order_row" = some (some (.ref f9)))
    (if9 : PySem.W.isFn K (.ref f9) = true)
    (l9 : K.lookup f9 = some ⟨oc9, od9, .func (PySem.W.fnOf "order_row" "Desk.order_row" (defArgs (inClass (topS 93) 3)) (defBody (inClass (topS 93) 3)) (defScope (inClass (topS 93) 3)) .none kV9 dc9 pm9 an9 cd9 ct9), sl9⟩)
    (c9 : PySem.W.codeIn K cd9 "Desk.order_row" = true)
    (k9 : PySem.W.keepIn K (.ref f9) = true)
    (mt_Desk_pact_row : PySem.W.findIn K (.ref C_Desk) "pact_row" = some (some (.ref f13)))
    (if13 : PySem.W.isFn K (.ref f13) = true)
    (l13 : K.lookup f13 = some ⟨oc13, od13, .func (PySem.W.fnOf "pact_row" "Desk.pact_row" (defArgs (inClass (topS 93) 4)) (defBody (inClass (topS 93) 4)) (defScope (inClass (topS 93) 4)) .none kV13 dc13 pm13 an13 cd13 ct13), sl13⟩)
    (c13 : PySem.W.codeIn K cd13 "Desk.pact_row" = true)
    (k13 : PySem.W.keepIn K (.ref f13) = true)
    (mt_Desk_told : PySem.W.findIn K (.ref C_Desk) "told" = some (some (.ref f21)))
    (if21 : PySem.W.isFn K (.ref f21) = true)
    (l21 : K.lookup f21 = some ⟨oc21, od21, .func (PySem.W.fnOf "told" "Desk.told" (defArgs (inClass (topS 93) 1)) (defBody (inClass (topS 93) 1)) (defScope (inClass (topS 93) 1)) .none kV21 dc21 pm21 an21 cd21 ct21), sl21⟩)
    (c21 : PySem.W.codeIn K cd21 "Desk.told" = true)
    (k21 : PySem.W.keepIn K (.ref f21) = true)
    (mt_ByWeights___init__ : PySem.W.findIn K (.ref C_ByWeights) "__init__" = some (some (.ref f8)))
    (if8 : PySem.W.isFn K (.ref f8) = true)
    (l8 : K.lookup f8 = some ⟨oc8, od8, .func (PySem.W.fnOf "__init__" "ByWeights.__init__" (defArgs (inClass (topS 79) 0)) (defBody (inClass (topS 79) 0)) (defScope (inClass (topS 79) 0)) .none kV8 dc8 pm8 an8 cd8 ct8), sl8⟩)
    (c8 : PySem.W.codeIn K cd8 "ByWeights.__init__" = true)
    (k8 : PySem.W.keepIn K (.ref f8) = true)
    (mk_ByWeights : PySem.W.makesIn K C_ByWeights = true)
    (kc_ByWeights : PySem.W.keepIn K (.ref C_ByWeights) = true)
    (mt_Desk___init__ : PySem.W.findIn K (.ref C_Desk) "__init__" = some (some (.ref f1)))
    (if1 : PySem.W.isFn K (.ref f1) = true)
    (l1 : K.lookup f1 = some ⟨oc1, od1, .func (PySem.W.fnOf "__init__" "Desk.__init__" (defArgs (inClass (topS 93) 0)) (defBody (inClass (topS 93) 0)) (defScope (inClass (topS 93) 0)) .none kV1 dc1 pm1 an1 cd1 ct1), sl1⟩)
    (c1 : PySem.W.codeIn K cd1 "Desk.__init__" = true)
    (k1 : PySem.W.keepIn K (.ref f1) = true)
    (mk_Desk : PySem.W.makesIn K C_Desk = true)
    (kc_Desk : PySem.W.keepIn K (.ref C_Desk) = true)
    (mt_FromRight___init__ : PySem.W.findIn K (.ref C_FromRight) "__init__" = some (some (.ref f5)))
    (mk_FromRight : PySem.W.makesIn K C_FromRight = true)
    (kc_FromRight : PySem.W.keepIn K (.ref C_FromRight) = true)
    (mk_Order : PySem.W.makesIn K C_Order = true)
    (kc_Order : PySem.W.keepIn K (.ref C_Order) = true)
    (a2 : PySem.W.nsIn K mainGlobals "_law_letters" = some (some (.ref f2)))
    (l2 : K.lookup f2 = some ⟨oc2, od2, .func (PySem.W.fnOf "_law_letters" "_law_letters" (defArgs (topS 96)) (defBody (topS 96)) (defScope (topS 96)) .none kV2 dc2 pm2 an2 cd2 ct2), sl2⟩)
    (c2 : PySem.W.codeIn K cd2 "_law_letters" = true)
    (k2 : PySem.W.keepIn K (.ref f2) = true)
    (a3 : PySem.W.nsIn K mainGlobals "_law_cell_at" = some (some (.ref f3)))
    (l3 : K.lookup f3 = some ⟨oc3, od3, .func (PySem.W.fnOf "_law_cell_at" "_law_cell_at" (defArgs (topS 95)) (defBody (topS 95)) (defScope (topS 95)) .none kV3 dc3 pm3 an3 cd3 ct3), sl3⟩)
    (c3 : PySem.W.codeIn K cd3 "_law_cell_at" = true)
    (k3 : PySem.W.keepIn K (.ref f3) = true)
    (a4 : PySem.W.nsIn K mainGlobals "letters_of" = some (some (.ref f4)))
    (l4 : K.lookup f4 = some ⟨oc4, od4, .func (PySem.W.fnOf "letters_of" "letters_of" (defArgs (topS 14)) (defBody (topS 14)) (defScope (topS 14)) .none kV4 dc4 pm4 an4 cd4 ct4), sl4⟩)
    (c4 : PySem.W.codeIn K cd4 "letters_of" = true)
    (k4 : PySem.W.keepIn K (.ref f4) = true)
    (a7 : PySem.W.nsIn K mainGlobals "weight_of" = some (some (.ref f7)))
    (l7 : K.lookup f7 = some ⟨oc7, od7, .func (PySem.W.fnOf "weight_of" "weight_of" (defArgs (topS 88)) (defBody (topS 88)) (defScope (topS 88)) .none kV7 dc7 pm7 an7 cd7 ct7), sl7⟩)
    (c7 : PySem.W.codeIn K cd7 "weight_of" = true)
    (k7 : PySem.W.keepIn K (.ref f7) = true)
    (a10 : PySem.W.nsIn K mainGlobals "word_of" = some (some (.ref f10)))
    (l10 : K.lookup f10 = some ⟨oc10, od10, .func (PySem.W.fnOf "word_of" "word_of" (defArgs (topS 15)) (defBody (topS 15)) (defScope (topS 15)) (.ref T10) kV10 dc10 pm10 an10 cd10 ct10), sl10⟩)
    (c10 : PySem.W.codeIn K cd10 "word_of" = true)
    (k10 : PySem.W.keepIn K (.ref f10) = true)
    (dl10 : K.lookup T10 = some ⟨tc10, to10, .seq #[.int 60 tt10] tn10, ts10⟩)
    (a11 : PySem.W.nsIn K mainGlobals "read_word" = some (some (.ref f11)))
    (l11 : K.lookup f11 = some ⟨oc11, od11, .func (PySem.W.fnOf "read_word" "read_word" (defArgs (topS 74)) (defBody (topS 74)) (defScope (topS 74)) (.ref T11) kV11 dc11 pm11 an11 cd11 ct11), sl11⟩)
    (c11 : PySem.W.codeIn K cd11 "read_word" = true)
    (k11 : PySem.W.keepIn K (.ref f11) = true)
    (dl11 : K.lookup T11 = some ⟨tc11, to11, .seq #[.int 60 tt11] tn11, ts11⟩)
    (a12 : PySem.W.nsIn K mainGlobals "read_pact" = some (some (.ref f12)))
    (l12 : K.lookup f12 = some ⟨oc12, od12, .func (PySem.W.fnOf "read_pact" "read_pact" (defArgs (topS 75)) (defBody (topS 75)) (defScope (topS 75)) (.ref T12) kV12 dc12 pm12 an12 cd12 ct12), sl12⟩)
    (c12 : PySem.W.codeIn K cd12 "read_pact" = true)
    (k12 : PySem.W.keepIn K (.ref f12) = true)
    (dl12 : K.lookup T12 = some ⟨tc12, to12, .seq #[.int 60 tt12] tn12, ts12⟩)
    (a14 : PySem.W.nsIn K mainGlobals "shown_word" = some (some (.ref f14)))
    (l14 : K.lookup f14 = some ⟨oc14, od14, .func (PySem.W.fnOf "shown_word" "shown_word" (defArgs (topS 69)) (defBody (topS 69)) (defScope (topS 69)) .none kV14 dc14 pm14 an14 cd14 ct14), sl14⟩)
    (c14 : PySem.W.codeIn K cd14 "shown_word" = true)
    (k14 : PySem.W.keepIn K (.ref f14) = true)
    (a15 : PySem.W.nsIn K mainGlobals "shown_pact" = some (some (.ref f15)))
    (l15 : K.lookup f15 = some ⟨oc15, od15, .func (PySem.W.fnOf "shown_pact" "shown_pact" (defArgs (topS 70)) (defBody (topS 70)) (defScope (topS 70)) .none kV15 dc15 pm15 an15 cd15 ct15), sl15⟩)
    (c15 : PySem.W.codeIn K cd15 "shown_pact" = true)
    (k15 : PySem.W.keepIn K (.ref f15) = true)
    (a17 : PySem.W.nsIn K mainGlobals "shown_step" = some (some (.ref f17)))
    (l17 : K.lookup f17 = some ⟨oc17, od17, .func (PySem.W.fnOf "shown_step" "shown_step" (defArgs (topS 71)) (defBody (topS 71)) (defScope (topS 71)) .none kV17 dc17 pm17 an17 cd17 ct17), sl17⟩)
    (c17 : PySem.W.codeIn K cd17 "shown_step" = true)
    (k17 : PySem.W.keepIn K (.ref f17) = true)
    (a18 : PySem.W.nsIn K mainGlobals "shown_steps" = some (some (.ref f18)))
    (l18 : K.lookup f18 = some ⟨oc18, od18, .func (PySem.W.fnOf "shown_steps" "shown_steps" (defArgs (topS 72)) (defBody (topS 72)) (defScope (topS 72)) .none kV18 dc18 pm18 an18 cd18 ct18), sl18⟩)
    (c18 : PySem.W.codeIn K cd18 "shown_steps" = true)
    (k18 : PySem.W.keepIn K (.ref f18) = true)
    (a19 : PySem.W.nsIn K mainGlobals "shown_entry" = some (some (.ref f19)))
    (l19 : K.lookup f19 = some ⟨oc19, od19, .func (PySem.W.fnOf "shown_entry" "shown_entry" (defArgs (topS 73)) (defBody (topS 73)) (defScope (topS 73)) .none kV19 dc19 pm19 an19 cd19 ct19), sl19⟩)
    (c19 : PySem.W.codeIn K cd19 "shown_entry" = true)
    (k19 : PySem.W.keepIn K (.ref f19) = true)
    (a20 : PySem.W.nsIn K mainGlobals "shown_entries" = some (some (.ref f20)))
    (l20 : K.lookup f20 = some ⟨oc20, od20, .func (PySem.W.fnOf "shown_entries" "shown_entries" (defArgs (topS 90)) (defBody (topS 90)) (defScope (topS 90)) .none kV20 dc20 pm20 an20 cd20 ct20), sl20⟩)
    (c20 : PySem.W.codeIn K cd20 "shown_entries" = true)
    (k20 : PySem.W.keepIn K (.ref f20) = true)
    (a22 : PySem.W.nsIn K mainGlobals "_law_mixed" = some (some (.ref f22)))
    (l22 : K.lookup f22 = some ⟨oc22, od22, .func (PySem.W.fnOf "_law_mixed" "_law_mixed" (defArgs (topS 99)) (defBody (topS 99)) (defScope (topS 99)) .none kV22 dc22 pm22 an22 cd22 ct22), sl22⟩)
    (c22 : PySem.W.codeIn K cd22 "_law_mixed" = true)
    (k22 : PySem.W.keepIn K (.ref f22) = true)
    (a23 : PySem.W.nsIn K mainGlobals "_law_word" = some (some (.ref f23)))
    (l23 : K.lookup f23 = some ⟨oc23, od23, .func (PySem.W.fnOf "_law_word" "_law_word" (defArgs (topS 97)) (defBody (topS 97)) (defScope (topS 97)) .none kV23 dc23 pm23 an23 cd23 ct23), sl23⟩)
    (c23 : PySem.W.codeIn K cd23 "_law_word" = true)
    (k23 : PySem.W.keepIn K (.ref f23) = true)
    (a24 : PySem.W.nsIn K mainGlobals "_law_pact" = some (some (.ref f24)))
    (l24 : K.lookup f24 = some ⟨oc24, od24, .func (PySem.W.fnOf "_law_pact" "_law_pact" (defArgs (topS 98)) (defBody (topS 98)) (defScope (topS 98)) .none kV24 dc24 pm24 an24 cd24 ct24), sl24⟩)
    (c24 : PySem.W.codeIn K cd24 "_law_pact" = true)
    (k24 : PySem.W.keepIn K (.ref f24) = true)
    (a25 : PySem.W.nsIn K mainGlobals "_law_shown" = some (some (.ref f25)))
    (l25 : K.lookup f25 = some ⟨oc25, od25, .func (PySem.W.fnOf "_law_shown" "_law_shown" (defArgs (topS 100)) (defBody (topS 100)) (defScope (topS 100)) .none kV25 dc25 pm25 an25 cd25 ct25), sl25⟩)
    (c25 : PySem.W.codeIn K cd25 "_law_shown" = true)
    (k25 : PySem.W.keepIn K (.ref f25) = true)
    (a26 : PySem.W.nsIn K mainGlobals "_law_row" = some (some (.ref f26)))
    (l26 : K.lookup f26 = some ⟨oc26, od26, .func (PySem.W.fnOf "_law_row" "_law_row" (defArgs (topS 102)) (defBody (topS 102)) (defScope (topS 102)) .none kV26 dc26 pm26 an26 cd26 ct26), sl26⟩)
    (c26 : PySem.W.codeIn K cd26 "_law_row" = true)
    (k26 : PySem.W.keepIn K (.ref f26) = true)
    (a27 : PySem.W.nsIn K mainGlobals "_law_told" = some (some (.ref f27)))
    (l27 : K.lookup f27 = some ⟨oc27, od27, .func (PySem.W.fnOf "_law_told" "_law_told" (defArgs (topS 101)) (defBody (topS 101)) (defScope (topS 101)) .none kV27 dc27 pm27 an27 cd27 ct27), sl27⟩)
    (c27 : PySem.W.codeIn K cd27 "_law_told" = true)
    (k27 : PySem.W.keepIn K (.ref f27) = true)
    (a28 : PySem.W.nsIn K mainGlobals "_law_due" = some (some (.ref f28)))
    (l28 : K.lookup f28 = some ⟨oc28, od28, .func (PySem.W.fnOf "_law_due" "_law_due" (defArgs (topS 103)) (defBody (topS 103)) (defScope (topS 103)) .none kV28 dc28 pm28 an28 cd28 ct28), sl28⟩)
    (c28 : PySem.W.codeIn K cd28 "_law_due" = true)
    (k28 : PySem.W.keepIn K (.ref f28) = true)
    (a29 : PySem.W.nsIn K mainGlobals "law" = some (some (.ref f29)))
    (l29 : K.lookup f29 = some ⟨oc29, od29, .func (PySem.W.fnOf "law" "law" (defArgs (topS 104)) (defBody (topS 104)) (defScope (topS 104)) .none kV29 dc29 pm29 an29 cd29 ct29), sl29⟩)
    (c29 : PySem.W.codeIn K cd29 "law" = true)
    (k29 : PySem.W.keepIn K (.ref f29) = true)
    (z_range : PySem.W.nsIn K mainGlobals "range" = some none)
    (z_len : PySem.W.nsIn K mainGlobals "len" = some none)
    {t_m_SMALL : Tok} (m_SMALL : PySem.W.nsIn K mainGlobals "SMALL" = some (some (.str (S c_SMALL) t_m_SMALL)))
    {t_m_FIGURES : Tok} (m_FIGURES : PySem.W.nsIn K mainGlobals "FIGURES" = some (some (.str (S c_FIGURES) t_m_FIGURES)))
    (z_int : PySem.W.nsIn K mainGlobals "int" = some none)
    (z_list : PySem.W.nsIn K mainGlobals "list" = some none)
    {t_m_MOST_SIDE : Tok} (m_MOST_SIDE : PySem.W.nsIn K mainGlobals "MOST_SIDE" = some (some (.int 10 t_m_MOST_SIDE)))
    {t_m_MOST_PACTS : Tok} (m_MOST_PACTS : PySem.W.nsIn K mainGlobals "MOST_PACTS" = some (some (.int 8 t_m_MOST_PACTS)))
    (z_str : PySem.W.nsIn K mainGlobals "str" = some none)
    (z_isinstance : PySem.W.nsIn K mainGlobals "isinstance" = some none) :
    ∃ fd : FuncData, (∀ (s : Shared) (v : Value), BindsTo s fd ⟨[v], []⟩ [("_law_script", v)]) ∧ ∀ base : Heap, K.In base → base.Ns mainGlobals mg → FnOk l.prog w K mg base (L2.CX l.prog w) 8 fa fd ["_law_script"] (spLaw K) := by
  have T : Txt (kx K C_System C_Order C_FromRight C_ByWeights C_Desk C_LetterError C_NoLetters C_NoWord C_NoPact C_NoOrder C_NoUse C_NotTurned C_TooFar C_TooMany C_NoRow) mg := ⟨rfl,
    PySem.W.mg_of X G xg_LetterError,
    PySem.W.mg_of X G xg_NoLetters,
    PySem.W.mg_of X G xg_NoWord,
    PySem.W.mg_of X G xg_NoPact,
    PySem.W.mg_of X G xg_NoOrder,
    PySem.W.mg_of X G xg_NoUse,
    PySem.W.mg_of X G xg_NotTurned,
    PySem.W.mg_of X G xg_TooFar,
    PySem.W.mg_of X G xg_TooMany,
    PySem.W.mg_of X G xg_NoRow,
    xe_NoLetters,
    kp_NoLetters,
    sb_NoLetters,
    ty_NoLetters,
    xe_NoOrder,
    kp_NoOrder,
    sb_NoOrder,
    ty_NoOrder,
    xe_NoRow,
    kp_NoRow,
    sb_NoRow,
    ty_NoRow,
    ⟨fi_NoWord, { gC := PySem.W.mg_of X G xg_NoWord, cls := ⟨nm_NoWord, q_NoWord, N_NoWord, bs_NoWord, _, sn_NoWord, sub_NoWord, ab_NoWord, col_NoWord, dd_NoWord, ma_NoWord, mb_NoWord, mc_NoWord, md_NoWord, me_NoWord, xL_NoWord, bv_NoWord⟩, sa := sa_NoWord, ga := ga_NoWord, gg := gg_NoWord, noN := nf_NoWord, iC := in_NoWord, tC := tf_NoWord, kC := kp_NoWord, exC := sb_NoWord, tyC := ty_NoWord, hdC := hd_NoWord, te := exm_ofs sb_NoWord ic_NoWord ty_NoWord su_NoWord_NoWord, fn := ⟨_, _, _, _, _, _, _, _, _, _, _, _, _, _, li_NoWord, ci_NoWord⟩ }⟩,
    xe_NoPact,
    kp_NoPact,
    sb_NoPact,
    ty_NoPact,
    xe_TooMany,
    kp_TooMany,
    sb_TooMany,
    ty_TooMany,
    (fun c b e => match c, e with | 0, e => by have e : some true = some b := e; cases e; exact exm_ofs sb_LetterError ic_LetterError ty_LetterError su_LetterError_LetterError | 1, e => by have e : some true = some b := e; cases e; exact exm_ofs sb_LetterError ic_LetterError ty_LetterError su_NoLetters_LetterError | 2, e => by have e : some true = some b := e; cases e; exact exm_ofs sb_LetterError ic_LetterError ty_LetterError su_NoWord_LetterError | 3, e => by have e : some true = some b := e; cases e; exact exm_ofs sb_LetterError ic_LetterError ty_LetterError su_NoPact_LetterError | 4, e => by have e : some true = some b := e; cases e; exact exm_ofs sb_LetterError ic_LetterError ty_LetterError su_NoOrder_LetterError | 5, e => by have e : some true = some b := e; cases e; exact exm_ofs sb_LetterError ic_LetterError ty_LetterError su_NoUse_LetterError | 6, e => by have e : some true = some b := e; cases e; exact exm_ofs sb_LetterError ic_LetterError ty_LetterError su_NotTurned_LetterError | 7, e => by have e : some true = some b := e; cases e; exact exm_ofs sb_LetterError ic_LetterError ty_LetterError su_TooFar_LetterError | 8, e => by have e : some true = some b := e; cases e; exact exm_ofs sb_LetterError ic_LetterError ty_LetterError su_TooMany_LetterError | 9, e => by have e : some true = some b := e; cases e; exact exm_ofs sb_LetterError ic_LetterError ty_LetterError su_NoRow_LetterError | n + 10, e => by have e : none = some b := e; cases e),
    ⟨xhn, xht⟩,
    (fun c b e => match c, e with | 0, e => by have e : some false = some b := e; cases e; exact ⟨⟨ic_LetterError, ga_LetterError, gg_LetterError, sb_LetterError, hc_LetterError, mo_LetterError⟩, kit_ofs ne_LetterError_TooMany ic_TooMany ty_TooMany su_LetterError_TooMany⟩ | 1, e => by have e : some false = some b := e; cases e; exact ⟨⟨ic_NoLetters, ga_NoLetters, gg_NoLetters, sb_NoLetters, hc_NoLetters, mo_NoLetters⟩, kit_ofs ne_NoLetters_TooMany ic_TooMany ty_TooMany su_NoLetters_TooMany⟩ | 2, e => by have e : some false = some b := e; cases e; exact ⟨⟨ic_NoWord, ga_NoWord, gg_NoWord, sb_NoWord, hc_NoWord, mo_NoWord⟩, kit_ofs ne_NoWord_TooMany ic_TooMany ty_TooMany su_NoWord_TooMany⟩ | 3, e => by have e : some false = some b := e; cases e; exact ⟨⟨ic_NoPact, ga_NoPact, gg_NoPact, sb_NoPact, hc_NoPact, mo_NoPact⟩, kit_ofs ne_NoPact_TooMany ic_TooMany ty_TooMany su_NoPact_TooMany⟩ | 4, e => by have e : some false = some b := e; cases e; exact ⟨⟨ic_NoOrder, ga_NoOrder, gg_NoOrder, sb_NoOrder, hc_NoOrder, mo_NoOrder⟩, kit_ofs ne_NoOrder_TooMany ic_TooMany ty_TooMany su_NoOrder_TooMany⟩ | 5, e => by have e : some false = some b := e; cases e; exact ⟨⟨ic_NoUse, ga_NoUse, gg_NoUse, sb_NoUse, hc_NoUse, mo_NoUse⟩, kit_ofs ne_NoUse_TooMany ic_TooMany ty_TooMany su_NoUse_TooMany⟩ | 6, e => by have e : some false = some b := e; cases e; exact ⟨⟨ic_NotTurned, ga_NotTurned, gg_NotTurned, sb_NotTurned, hc_NotTurned, mo_NotTurned⟩, kit_ofs ne_NotTurned_TooMany ic_TooMany ty_TooMany su_NotTurned_TooMany⟩ | 7, e => by have e : some false = some b := e; cases e; exact ⟨⟨ic_TooFar, ga_TooFar, gg_TooFar, sb_TooFar, hc_TooFar, mo_TooFar⟩, kit_ofs ne_TooFar_TooMany ic_TooMany ty_TooMany su_TooFar_TooMany⟩ | 8, e => by have e : some true = some b := e; cases e; exact ⟨⟨ic_TooMany, ga_TooMany, gg_TooMany, sb_TooMany, hc_TooMany, mo_TooMany⟩, kit_self⟩ | 9, e => by have e : some false = some b := e; cases e; exact ⟨⟨ic_NoRow, ga_NoRow, gg_NoRow, sb_NoRow, hc_NoRow, mo_NoRow⟩, kit_ofs ne_NoRow_TooMany ic_TooMany ty_TooMany su_NoRow_TooMany⟩ | n + 10, e => by have e : none = some b := e; cases e),
    (fun c b e => match c, e with | 0, e => by have e : some false = some b := e; cases e; exact ⟨⟨ic_LetterError, ga_LetterError, gg_LetterError, sb_LetterError, hc_LetterError, mo_LetterError⟩, kit_ofs ne_LetterError_NoRow ic_NoRow ty_NoRow su_LetterError_NoRow⟩ | 1, e => by have e : some false = some b := e; cases e; exact ⟨⟨ic_NoLetters, ga_NoLetters, gg_NoLetters, sb_NoLetters, hc_NoLetters, mo_NoLetters⟩, kit_ofs ne_NoLetters_NoRow ic_NoRow ty_NoRow su_NoLetters_NoRow⟩ | 2, e => by have e : some false = some b := e; cases e; exact ⟨⟨ic_NoWord, ga_NoWord, gg_NoWord, sb_NoWord, hc_NoWord, mo_NoWord⟩, kit_ofs ne_NoWord_NoRow ic_NoRow ty_NoRow su_NoWord_NoRow⟩ | 3, e => by have e : some false = some b := e; cases e; exact ⟨⟨ic_NoPact, ga_NoPact, gg_NoPact, sb_NoPact, hc_NoPact, mo_NoPact⟩, kit_ofs ne_NoPact_NoRow ic_NoRow ty_NoRow su_NoPact_NoRow⟩ | 4, e => by have e : some false = some b := e; cases e; exact ⟨⟨ic_NoOrder, ga_NoOrder, gg_NoOrder, sb_NoOrder, hc_NoOrder, mo_NoOrder⟩, kit_ofs ne_NoOrder_NoRow ic_NoRow ty_NoRow su_NoOrder_NoRow⟩ | 5, e => by have e : some false = some b := e; cases e; exact ⟨⟨ic_NoUse, ga_NoUse, gg_NoUse, sb_NoUse, hc_NoUse, mo_NoUse⟩, kit_ofs ne_NoUse_NoRow ic_NoRow ty_NoRow su_NoUse_NoRow⟩ | 6, e => by have e : some false = some b := e; cases e; exact ⟨⟨ic_NotTurned, ga_NotTurned, gg_NotTurned, sb_NotTurned, hc_NotTurned, mo_NotTurned⟩, kit_ofs ne_NotTurned_NoRow ic_NoRow ty_NoRow su_NotTurned_NoRow⟩ | 7, e => by have e : some false = some b := e; cases e; exact ⟨⟨ic_TooFar, ga_TooFar, gg_TooFar, sb_TooFar, hc_TooFar, mo_TooFar⟩, kit_ofs ne_TooFar_NoRow ic_NoRow ty_NoRow su_TooFar_NoRow⟩ | 8, e => by have e : some false = some b := e; cases e; exact ⟨⟨ic_TooMany, ga_TooMany, gg_TooMany, sb_TooMany, hc_TooMany, mo_TooMany⟩, kit_ofs ne_TooMany_NoRow ic_NoRow ty_NoRow su_TooMany_NoRow⟩ | 9, e => by have e : some true = some b := e; cases e; exact ⟨⟨ic_NoRow, ga_NoRow, gg_NoRow, sb_NoRow, hc_NoRow, mo_NoRow⟩, kit_self⟩ | n + 10, e => by have e : none = some b := e; cases e),
    (fun c b e => match c, e with | 0, e => by have e : some false = some b := e; cases e; exact ⟨⟨ic_LetterError, ga_LetterError, gg_LetterError, sb_LetterError, hc_LetterError, mo_LetterError⟩, kit_ofs ne_LetterError_NoOrder ic_NoOrder ty_NoOrder su_LetterError_NoOrder⟩ | 1, e => by have e : some false = some b := e; cases e; exact ⟨⟨ic_NoLetters, ga_NoLetters, gg_NoLetters, sb_NoLetters, hc_NoLetters, mo_NoLetters⟩, kit_ofs ne_NoLetters_NoOrder ic_NoOrder ty_NoOrder su_NoLetters_NoOrder⟩ | 2, e => by have e : some false = some b := e; cases e; exact ⟨⟨ic_NoWord, ga_NoWord, gg_NoWord, sb_NoWord, hc_NoWord, mo_NoWord⟩, kit_ofs ne_NoWord_NoOrder ic_NoOrder ty_NoOrder su_NoWord_NoOrder⟩ | 3, e => by have e : some false = some b := e; cases e; exact ⟨⟨ic_NoPact, ga_NoPact, gg_NoPact, sb_NoPact, hc_NoPact, mo_NoPact⟩, kit_ofs ne_NoPact_NoOrder ic_NoOrder ty_NoOrder su_NoPact_NoOrder⟩ | 4, e => by have e : some true = some b := e; cases e; exact ⟨⟨ic_NoOrder, ga_NoOrder, gg_NoOrder, sb_NoOrder, hc_NoOrder, mo_NoOrder⟩, kit_self⟩ | 5, e => by have e : some false = some b := e; cases e; exact ⟨⟨ic_NoUse, ga_NoUse, gg_NoUse, sb_NoUse, hc_NoUse, mo_NoUse⟩, kit_ofs ne_NoUse_NoOrder ic_NoOrder ty_NoOrder su_NoUse_NoOrder⟩ | 6, e => by have e : some false = some b := e; cases e; exact ⟨⟨ic_NotTurned, ga_NotTurned, gg_NotTurned, sb_NotTurned, hc_NotTurned, mo_NotTurned⟩, kit_ofs ne_NotTurned_NoOrder ic_NoOrder ty_NoOrder su_NotTurned_NoOrder⟩ | 7, e => by have e : some false = some b := e; cases e; exact ⟨⟨ic_TooFar, ga_TooFar, gg_TooFar, sb_TooFar, hc_TooFar, mo_TooFar⟩, kit_ofs ne_TooFar_NoOrder ic_NoOrder ty_NoOrder su_TooFar_NoOrder⟩ | 8, e => by have e : some false = some b := e; cases e; exact ⟨⟨ic_TooMany, ga_TooMany, gg_TooMany, sb_TooMany, hc_TooMany, mo_TooMany⟩, kit_ofs ne_TooMany_NoOrder ic_NoOrder ty_NoOrder su_TooMany_NoOrder⟩ | 9, e => by have e : some false = some b := e; cases e; exact ⟨⟨ic_NoRow, ga_NoRow, gg_NoRow, sb_NoRow, hc_NoRow, mo_NoRow⟩, kit_ofs ne_NoRow_NoOrder ic_NoOrder ty_NoOrder su_NoRow_NoOrder⟩ | n + 10, e => by have e : none = some b := e; cases e),
    (fun c b e => match c, e with | 0, e => by have e : some false = some b := e; cases e; exact ⟨⟨ic_LetterError, ga_LetterError, gg_LetterError, sb_LetterError, hc_LetterError, mo_LetterError⟩, kit_ofs ne_LetterError_NoWord ic_NoWord ty_NoWord su_LetterError_NoWord⟩ | 1, e => by have e : some false = some b := e; cases e; exact ⟨⟨ic_NoLetters, ga_NoLetters, gg_NoLetters, sb_NoLetters, hc_NoLetters, mo_NoLetters⟩, kit_ofs ne_NoLetters_NoWord ic_NoWord ty_NoWord su_NoLetters_NoWord⟩ | 2, e => by have e : some true = some b := e; cases e; exact ⟨⟨ic_NoWord, ga_NoWord, gg_NoWord, sb_NoWord, hc_NoWord, mo_NoWord⟩, kit_self⟩ | 3, e => by have e : some false = some b := e; cases e; exact ⟨⟨ic_NoPact, ga_NoPact, gg_NoPact, sb_NoPact, hc_NoPact, mo_NoPact⟩, kit_ofs ne_NoPact_NoWord ic_NoWord ty_NoWord su_NoPact_NoWord⟩ | 4, e => by have e : some false = some b := e; cases e; exact ⟨⟨ic_NoOrder, ga_NoOrder, gg_NoOrder, sb_NoOrder, hc_NoOrder, mo_NoOrder⟩, kit_ofs ne_NoOrder_NoWord ic_NoWord ty_NoWord su_NoOrder_NoWord⟩ | 5, e => by have e : some false = some b := e; cases e; exact ⟨⟨ic_NoUse, ga_NoUse, gg_NoUse, sb_NoUse, hc_NoUse, mo_NoUse⟩, kit_ofs ne_NoUse_NoWord ic_NoWord ty_NoWord su_NoUse_NoWord⟩ | 6, e => by have e : some false = some b := e; cases e; exact ⟨⟨ic_NotTurned, ga_NotTurned, gg_NotTurned, sb_NotTurned, hc_NotTurned, mo_NotTurned⟩, kit_ofs ne_NotTurned_NoWord ic_NoWord ty_NoWord su_NotTurned_NoWord⟩ | 7, e => by have e : some false = some b := e; cases e; exact ⟨⟨ic_TooFar, ga_TooFar, gg_TooFar, sb_TooFar, hc_TooFar, mo_TooFar⟩, kit_ofs ne_TooFar_NoWord ic_NoWord ty_NoWord su_TooFar_NoWord⟩ | 8, e => by have e : some false = some b := e; cases e; exact ⟨⟨ic_TooMany, ga_TooMany, gg_TooMany, sb_TooMany, hc_TooMany, mo_TooMany⟩, kit_ofs ne_TooMany_NoWord ic_NoWord ty_NoWord su_TooMany_NoWord⟩ | 9, e => by have e : some false = some b := e; cases e; exact ⟨⟨ic_NoRow, ga_NoRow, gg_NoRow, sb_NoRow, hc_NoRow, mo_NoRow⟩, kit_ofs ne_NoRow_NoWord ic_NoWord ty_NoWord su_NoRow_NoWord⟩ | n + 10, e => by have e : none = some b := e; cases e),
    (fun c b e => match c, e with | 0, e => by have e : some false = some b := e; cases e; exact ⟨⟨ic_LetterError, ga_LetterError, gg_LetterError, sb_LetterError, hc_LetterError, mo_LetterError⟩, kit_two (kit_ofs ne_LetterError_NoOrder ic_NoOrder ty_NoOrder su_LetterError_NoOrder) (kit_ofs ne_LetterError_NoWord ic_NoWord ty_NoWord su_LetterError_NoWord)⟩ | 1, e => by have e : some false = some b := e; cases e; exact ⟨⟨ic_NoLetters, ga_NoLetters, gg_NoLetters, sb_NoLetters, hc_NoLetters, mo_NoLetters⟩, kit_two (kit_ofs ne_NoLetters_NoOrder ic_NoOrder ty_NoOrder su_NoLetters_NoOrder) (kit_ofs ne_NoLetters_NoWord ic_NoWord ty_NoWord su_NoLetters_NoWord)⟩ | 2, e => by have e : some true = some b := e; cases e; exact ⟨⟨ic_NoWord, ga_NoWord, gg_NoWord, sb_NoWord, hc_NoWord, mo_NoWord⟩, kit_two (kit_ofs ne_NoWord_NoOrder ic_NoOrder ty_NoOrder su_NoWord_NoOrder) (kit_self)⟩ | 3, e => by have e : some false = some b := e; cases e; exact ⟨⟨ic_NoPact, ga_NoPact, gg_NoPact, sb_NoPact, hc_NoPact, mo_NoPact⟩, kit_two (kit_ofs ne_NoPact_NoOrder ic_NoOrder ty_NoOrder su_NoPact_NoOrder) (kit_ofs ne_NoPact_NoWord ic_NoWord ty_NoWord su_NoPact_NoWord)⟩ | 4, e => by have e : some true = some b := e; cases e; exact ⟨⟨ic_NoOrder, ga_NoOrder, gg_NoOrder, sb_NoOrder, hc_NoOrder, mo_NoOrder⟩, kit_two (kit_self) (kit_ofs ne_NoOrder_NoWord ic_NoWord ty_NoWord su_NoOrder_NoWord)⟩ | 5, e => by have e : some false = some b := e; cases e; exact ⟨⟨ic_NoUse, ga_NoUse, gg_NoUse, sb_NoUse, hc_NoUse, mo_NoUse⟩, kit_two (kit_ofs ne_NoUse_NoOrder ic_NoOrder ty_NoOrder su_NoUse_NoOrder) (kit_ofs ne_NoUse_NoWord ic_NoWord ty_NoWord su_NoUse_NoWord)⟩ | 6, e => by have e : some false = some b := e; cases e; exact ⟨⟨ic_NotTurned, ga_NotTurned, gg_NotTurned, sb_NotTurned, hc_NotTurned, mo_NotTurned⟩, kit_two (kit_ofs ne_NotTurned_NoOrder ic_NoOrder ty_NoOrder su_NotTurned_NoOrder) (kit_ofs ne_NotTurned_NoWord ic_NoWord ty_NoWord su_NotTurned_NoWord)⟩ | 7, e => by have e : some false = some b := e; cases e; exact ⟨⟨ic_TooFar, ga_TooFar, gg_TooFar, sb_TooFar, hc_TooFar, mo_TooFar⟩, kit_two (kit_ofs ne_TooFar_NoOrder ic_NoOrder ty_NoOrder su_TooFar_NoOrder) (kit_ofs ne_TooFar_NoWord ic_NoWord ty_NoWord su_TooFar_NoWord)⟩ | 8, e => by have e : some false = some b := e; cases e; exact ⟨⟨ic_TooMany, ga_TooMany, gg_TooMany, sb_TooMany, hc_TooMany, mo_TooMany⟩, kit_two (kit_ofs ne_TooMany_NoOrder ic_NoOrder ty_NoOrder su_TooMany_NoOrder) (kit_ofs ne_TooMany_NoWord ic_NoWord ty_NoWord su_TooMany_NoWord)⟩ | 9, e => by have e : some false = some b := e; cases e; exact ⟨⟨ic_NoRow, ga_NoRow, gg_NoRow, sb_NoRow, hc_NoRow, mo_NoRow⟩, kit_two (kit_ofs ne_NoRow_NoOrder ic_NoOrder ty_NoOrder su_NoRow_NoOrder) (kit_ofs ne_NoRow_NoWord ic_NoWord ty_NoWord su_NoRow_NoWord)⟩ | n + 10, e => by have e : none = some b := e; cases e),
    ⟨fun c k e => match c, e with | 0, e => by have e : some 0 = some k := e; cases e; exact ⟨⟨pg_System, hd_System, po_System, sa_System⟩, na_System_order, rfl, (by show (["order", "rules"] : List Str).Nodup; decide +kernel), (by show (["order", "rules"] : List Str).length < 1000; decide)⟩ | 4, e => by have e : some 0 = some k := e; cases e; exact ⟨⟨pg_Desk, hd_Desk, po_Desk, sa_Desk⟩, na_Desk_order, rfl, (by show (["order", "pacts"] : List Str).Nodup; decide +kernel), (by show (["order", "pacts"] : List Str).length < 1000; decide)⟩ | 1, e => by have e : (none : Option Nat) = some k := e; cases e | 2, e => by have e : (none : Option Nat) = some k := e; cases e | 3, e => by have e : (none : Option Nat) = some k := e; cases e | n + 5, e => by have e : (none : Option Nat) = some k := e; cases e⟩,
    ⟨fun c k e => match c, e with | 4, e => by have e : some 1 = some k := e; cases e; exact ⟨⟨pg_Desk, hd_Desk, po_Desk, sa_Desk⟩, na_Desk_pacts, rfl, (by show (["order", "pacts"] : List Str).Nodup; decide +kernel), (by show (["order", "pacts"] : List Str).length < 1000; decide)⟩ | 0, e => by have e : (none : Option Nat) = some k := e; cases e | 1, e => by have e : (none : Option Nat) = some k := e; cases e | 2, e => by have e : (none : Option Nat) = some k := e; cases e | 3, e => by have e : (none : Option Nat) = some k := e; cases e | n + 5, e => by have e : (none : Option Nat) = some k := e; cases e⟩,
    ⟨fun c k e => match c, e with | 1, e => by have e : some 0 = some k := e; cases e; exact ⟨⟨pg_Order, hd_Order, po_Order, sa_Order⟩, na_Order_letters, rfl, (by show (["letters"] : List Str).Nodup; decide +kernel), (by show (["letters"] : List Str).length < 1000; decide)⟩ | 2, e => by have e : some 0 = some k := e; cases e; exact ⟨⟨pg_FromRight, hd_FromRight, po_FromRight, sa_FromRight⟩, na_FromRight_letters, rfl, (by show (["letters"] : List Str).Nodup; decide +kernel), (by show (["letters"] : List Str).length < 1000; decide)⟩ | 3, e => by have e : some 0 = some k := e; cases e; exact ⟨⟨pg_ByWeights, hd_ByWeights, po_ByWeights, sa_ByWeights⟩, na_ByWeights_letters, rfl, (by show (["letters", "weights"] : List Str).Nodup; decide +kernel), (by show (["letters", "weights"] : List Str).length < 1000; decide)⟩ | 0, e => by have e : (none : Option Nat) = some k := e; cases e | 4, e => by have e : (none : Option Nat) = some k := e; cases e | n + 5, e => by have e : (none : Option Nat) = some k := e; cases e⟩,
    ⟨fun c k e => match c, e with | 3, e => by have e : some 1 = some k := e; cases e; exact ⟨⟨pg_ByWeights, hd_ByWeights, po_ByWeights, sa_ByWeights⟩, na_ByWeights_weights, rfl, (by show (["letters", "weights"] : List Str).Nodup; decide +kernel), (by show (["letters", "weights"] : List Str).length < 1000; decide)⟩ | 0, e => by have e : (none : Option Nat) = some k := e; cases e | 1, e => by have e : (none : Option Nat) = some k := e; cases e | 2, e => by have e : (none : Option Nat) = some k := e; cases e | 4, e => by have e : (none : Option Nat) = some k := e; cases e | n + 5, e => by have e : (none : Option Nat) = some k := e; cases e⟩,
    ⟨_, _, .type "type", PySem.W.mg_of X G cg_Order, ⟨rd_Order, rg_Order⟩, fc_Order, k5, fun_mk (st := inClass (topS 77) 0) l5 c5 k5⟩,
    ⟨_, _, fun_mk (st := inClass (topS 93) 5) l16 c16 k16, ⟨pg_Desk, hd_Desk, po_Desk, sa_Desk⟩, ⟨mt_Desk_drop_row, if16, k16⟩, (by show ("drop_row" : Str) ∉ (["order", "pacts"] : List Str); decide +kernel)⟩,
    ⟨_, _, fun_mk (st := inClass (topS 93) 2) l6 c6 k6, ⟨pg_Desk, hd_Desk, po_Desk, sa_Desk⟩, ⟨mt_Desk_letters_row, if6, k6⟩, (by show ("letters_row" : Str) ∉ (["order", "pacts"] : List Str); decide +kernel)⟩,
    ⟨_, _, fun_mk (st := inClass (topS 93) 3) l9 c9 k9, ⟨pg_Desk, hd_Desk, po_Desk, sa_Desk⟩, ⟨mt_Desk_order_row, if9, k9⟩, (by show ("order_row" : Str) ∉ (["order", "pacts"] : List Str); decide +kernel)⟩,
    ⟨_, _, fun_mk (st := inClass (topS 93) 4) l13 c13 k13, ⟨pg_Desk, hd_Desk, po_Desk, sa_Desk⟩, ⟨mt_Desk_pact_row, if13, k13⟩, (by show ("pact_row" : Str) ∉ (["order", "pacts"] : List Str); decide +kernel)⟩,
    ⟨_, _, fun_mk (st := inClass (topS 93) 1) l21 c21 k21, ⟨pg_Desk, hd_Desk, po_Desk, sa_Desk⟩, ⟨mt_Desk_told, if21, k21⟩, (by show ("told" : Str) ∉ (["order", "pacts"] : List Str); decide +kernel)⟩,
    ⟨_, _, PySem.W.mg_of X G cg_ByWeights, ⟨mk_ByWeights, mt_ByWeights___init__, if8, kc_ByWeights⟩, fun_mk (st := inClass (topS 79) 0) l8 c8 k8⟩,
    ⟨_, _, PySem.W.mg_of X G cg_Desk, ⟨mk_Desk, mt_Desk___init__, if1, kc_Desk⟩, fun_mk (st := inClass (topS 93) 0) l1 c1 k1⟩,
    ⟨_, _, PySem.W.mg_of X G cg_FromRight, ⟨mk_FromRight, mt_FromRight___init__, if5, kc_FromRight⟩, fun_mk (st := inClass (topS 77) 0) l5 c5 k5⟩,
    ⟨_, _, PySem.W.mg_of X G cg_Order, ⟨mk_Order, mt_Order___init__, if5, kc_Order⟩, fun_mk (st := inClass (topS 77) 0) l5 c5 k5⟩,
    ⟨_, _, fun_mk (st := topS 96) l2 c2 k2, PySem.W.mg_of X G a2⟩,
    ⟨_, _, fun_mk (st := topS 95) l3 c3 k3, PySem.W.mg_of X G a3⟩,
    ⟨_, _, fun_mk (st := topS 14) l4 c4 k4, PySem.W.mg_of X G a4⟩,
    ⟨_, _, fun_mk (st := topS 88) l7 c7 k7, PySem.W.mg_of X G a7⟩,
    ⟨_, _, ⟨⟨_, _, _, _, _, _, _, _, _, _, rfl, l10, c10, .inr ⟨by simp, _, _, [.int 60 tt10], _, rfl, dl10, rfl, .cons ⟨_, rfl⟩ .nil⟩, .inl rfl⟩, k10⟩, PySem.W.mg_of X G a10⟩,
    ⟨_, _, ⟨⟨_, _, _, _, _, _, _, _, _, _, rfl, l11, c11, .inr ⟨by simp, _, _, [.int 60 tt11], _, rfl, dl11, rfl, .cons ⟨_, rfl⟩ .nil⟩, .inl rfl⟩, k11⟩, PySem.W.mg_of X G a11⟩,
    ⟨_, _, ⟨⟨_, _, _, _, _, _, _, _, _, _, rfl, l12, c12, .inr ⟨by simp, _, _, [.int 60 tt12], _, rfl, dl12, rfl, .cons ⟨_, rfl⟩ .nil⟩, .inl rfl⟩, k12⟩, PySem.W.mg_of X G a12⟩,
    ⟨_, _, fun_mk (st := topS 69) l14 c14 k14, PySem.W.mg_of X G a14⟩,
    ⟨_, _, fun_mk (st := topS 70) l15 c15 k15, PySem.W.mg_of X G a15⟩,
    ⟨_, _, fun_mk (st := topS 71) l17 c17 k17, PySem.W.mg_of X G a17⟩,
    ⟨_, _, fun_mk (st := topS 72) l18 c18 k18, PySem.W.mg_of X G a18⟩,
    ⟨_, _, fun_mk (st := topS 73) l19 c19 k19, PySem.W.mg_of X G a19⟩,
    ⟨_, _, fun_mk (st := topS 90) l20 c20 k20, PySem.W.mg_of X G a20⟩,
    ⟨_, _, fun_mk (st := topS 99) l22 c22 k22, PySem.W.mg_of X G a22⟩,
    ⟨_, _, fun_mk (st := topS 97) l23 c23 k23, PySem.W.mg_of X G a23⟩,
    ⟨_, _, fun_mk (st := topS 98) l24 c24 k24, PySem.W.mg_of X G a24⟩,
    ⟨_, _, fun_mk (st := topS 100) l25 c25 k25, PySem.W.mg_of X G a25⟩,
    ⟨_, _, fun_mk (st := topS 102) l26 c26 k26, PySem.W.mg_of X G a26⟩,
    ⟨_, _, fun_mk (st := topS 101) l27 c27 k27, PySem.W.mg_of X G a27⟩,
    ⟨_, _, fun_mk (st := topS 103) l28 c28 k28, PySem.W.mg_of X G a28⟩,
    ⟨_, _, fun_mk (st := topS 104) l29 c29 k29, PySem.W.mg_of X G a29⟩,
    PySem.W.mg_none_of X G z_range,
    PySem.W.mg_none_of X G z_len,
    ⟨_, PySem.W.mg_of X G m_SMALL⟩,
    ⟨_, PySem.W.mg_of X G m_FIGURES⟩,
    PySem.W.mg_none_of X G z_int,
    PySem.W.mg_none_of X G z_list,
    ⟨_, PySem.W.mg_of X G m_MOST_SIDE⟩,
    ⟨_, PySem.W.mg_of X G m_MOST_PACTS⟩,
    PySem.W.mg_none_of X G z_str,
    PySem.W.mg_none_of X G z_isinstance⟩
  have e := hfa.symm.trans (PySem.W.mg_of X G a29)
  cases e
  have F := fun_mk (st := topS 104) l29 c29 k29
  refine ⟨PySem.W.fnOf "law" "law" (defArgs (topS 104)) (defBody (topS 104)) (defScope (topS 104)) .none kV29 dc29 pm29 an29 cd29 ct29, fun s v => ?_, fun base hb hg => ?_⟩
  · exact .of_eq rfl
  · have N_Desk : VMk l.prog w (kx K C_System C_Order C_FromRight C_ByWeights C_Desk C_LetterError C_NoLetters C_NoWord C_NoPact C_NoOrder C_NoUse C_NotTurned C_TooFar C_TooMany C_NoRow) mg base "Desk" 4 1 [] g_Desk_init := okN_Desk T
    have K_law_letters : VFn l.prog w (kx K C_System C_Order C_FromRight C_ByWeights C_Desk C_LetterError C_NoLetters C_NoWord C_NoPact C_NoOrder C_NoUse C_NotTurned C_TooFar C_TooMany C_NoRow) mg base "_law_letters" 1 [true, true] g_law_letters := ok_law_letters T
    have K_law_cell_at : VFn l.prog w (kx K C_System C_Order C_FromRight C_ByWeights C_Desk C_LetterError C_NoLetters C_NoWord C_NoPact C_NoOrder C_NoUse C_NotTurned C_TooFar C_TooMany C_NoRow) mg base "_law_cell_at" 1 [true, true] g_law_cell_at := ok_law_cell_at T
    have K_letters_of : VFn l.prog w (kx K C_System C_Order C_FromRight C_ByWeights C_Desk C_LetterError C_NoLetters C_NoWord C_NoPact C_NoOrder C_NoUse C_NotTurned C_TooFar C_TooMany C_NoRow) mg base "letters_of" 1 [false] g_letters_of := ok_letters_of T
    have N_Order : VMk l.prog w (kx K C_System C_Order C_FromRight C_ByWeights C_Desk C_LetterError C_NoLetters C_NoWord C_NoPact C_NoOrder C_NoUse C_NotTurned C_TooFar C_TooMany C_NoRow) mg base "Order" 1 2 [false] g_Order_init := okN_Order T K_letters_of
    have B_Order : VCi l.prog w (kx K C_System C_Order C_FromRight C_ByWeights C_Desk C_LetterError C_NoLetters C_NoWord C_NoPact C_NoOrder C_NoUse C_NotTurned C_TooFar C_TooMany C_NoRow) mg base "Order" 1 "__init__" 2 [false] g_Order_init := okB_Order T K_letters_of
    have N_FromRight : VMk l.prog w (kx K C_System C_Order C_FromRight C_ByWeights C_Desk C_LetterError C_NoLetters C_NoWord C_NoPact C_NoOrder C_NoUse C_NotTurned C_TooFar C_TooMany C_NoRow) mg base "FromRight" 2 2 [false] g_Order_init := okN_FromRight T K_letters_of
    have I_letters_row : VMtI l.prog w (kx K C_System C_Order C_FromRight C_ByWeights C_Desk C_LetterError C_NoLetters C_NoWord C_NoPact C_NoOrder C_NoUse C_NotTurned C_TooFar C_TooMany C_NoRow) mg base 4 "letters_row" 4 [false] g_Desk_letters_row := okI_letters_row T N_Order K_letters_of
    have K_weight_of : VFn l.prog w (kx K C_System C_Order C_FromRight C_ByWeights C_Desk C_LetterError C_NoLetters C_NoWord C_NoPact C_NoOrder C_NoUse C_NotTurned C_TooFar C_TooMany C_NoRow) mg base "weight_of" 1 [true] g_weight_of := ok_weight_of T
    have N_ByWeights : VMk l.prog w (kx K C_System C_Order C_FromRight C_ByWeights C_Desk C_LetterError C_NoLetters C_NoWord C_NoPact C_NoOrder C_NoUse C_NotTurned C_TooFar C_TooMany C_NoRow) mg base "ByWeights" 3 3 [false, true] g_ByWeights_init := okN_ByWeights T B_Order
    have I_order_row : VMtI l.prog w (kx K C_System C_Order C_FromRight C_ByWeights C_Desk C_LetterError C_NoLetters C_NoWord C_NoPact C_NoOrder C_NoUse C_NotTurned C_TooFar C_TooMany C_NoRow) mg base 4 "order_row" 5 [false] g_Desk_order_row := okI_order_row T N_Order N_FromRight K_weight_of N_ByWeights
    have K_word_of : VFnD l.prog w (kx K C_System C_Order C_FromRight C_ByWeights C_Desk C_LetterError C_NoLetters C_NoWord C_NoPact C_NoOrder C_NoUse C_NotTurned C_TooFar C_TooMany C_NoRow) mg base "word_of" 1 [true, false, true] g_word_of 60 := ok_word_of T
    have K_read_word : VFnD l.prog w (kx K C_System C_Order C_FromRight C_ByWeights C_Desk C_LetterError C_NoLetters C_NoWord C_NoPact C_NoOrder C_NoUse C_NotTurned C_TooFar C_TooMany C_NoRow) mg base "read_word" 2 [true, false, true] g_read_word 60 := ok_read_word T K_word_of
    have K_read_pact : VFnD l.prog w (kx K C_System C_Order C_FromRight C_ByWeights C_Desk C_LetterError C_NoLetters C_NoWord C_NoPact C_NoOrder C_NoUse C_NotTurned C_TooFar C_TooMany C_NoRow) mg base "read_pact" 3 [true, true, true] g_read_pact 60 := ok_read_pact T K_read_word
    have I_pact_row : VMtI l.prog w (kx K C_System C_Order C_FromRight C_ByWeights C_Desk C_LetterError C_NoLetters C_NoWord C_NoPact C_NoOrder C_NoUse C_NotTurned C_TooFar C_TooMany C_NoRow) mg base 4 "pact_row" 4 [false] g_Desk_pact_row := okI_pact_row T K_read_pact
    have K_shown_word : VFn l.prog w (kx K C_System C_Order C_FromRight C_ByWeights C_Desk C_LetterError C_NoLetters C_NoWord C_NoPact C_NoOrder C_NoUse C_NotTurned C_TooFar C_TooMany C_NoRow) mg base "shown_word" 1 [false] g_shown_word := ok_shown_word T
    have K_shown_pact : VFn l.prog w (kx K C_System C_Order C_FromRight C_ByWeights C_Desk C_LetterError C_NoLetters C_NoWord C_NoPact C_NoOrder C_NoUse C_NotTurned C_TooFar C_TooMany C_NoRow) mg base "shown_pact" 2 [true] g_shown_pact := ok_shown_pact T K_shown_word
    have I_drop_row : VMtI l.prog w (kx K C_System C_Order C_FromRight C_ByWeights C_Desk C_LetterError C_NoLetters C_NoWord C_NoPact C_NoOrder C_NoUse C_NotTurned C_TooFar C_TooMany C_NoRow) mg base 4 "drop_row" 3 [] g_Desk_drop_row := okI_drop_row T K_shown_pact
    have K_shown_step : VFn l.prog w (kx K C_System C_Order C_FromRight C_ByWeights C_Desk C_LetterError C_NoLetters C_NoWord C_NoPact C_NoOrder C_NoUse C_NotTurned C_TooFar C_TooMany C_NoRow) mg base "shown_step" 1 [true] g_shown_step := ok_shown_step T
    have K_shown_steps : VFn l.prog w (kx K C_System C_Order C_FromRight C_ByWeights C_Desk C_LetterError C_NoLetters C_NoWord C_NoPact C_NoOrder C_NoUse C_NotTurned C_TooFar C_TooMany C_NoRow) mg base "shown_steps" 2 [true] g_shown_steps := ok_shown_steps T K_shown_step
    have K_shown_entry : VFn l.prog w (kx K C_System C_Order C_FromRight C_ByWeights C_Desk C_LetterError C_NoLetters C_NoWord C_NoPact C_NoOrder C_NoUse C_NotTurned C_TooFar C_TooMany C_NoRow) mg base "shown_entry" 3 [true] g_shown_entry := ok_shown_entry T K_shown_pact K_shown_steps
    have K_shown_entries : VFn l.prog w (kx K C_System C_Order C_FromRight C_ByWeights C_Desk C_LetterError C_NoLetters C_NoWord C_NoPact C_NoOrder C_NoUse C_NotTurned C_TooFar C_TooMany C_NoRow) mg base "shown_entries" 4 [true] g_shown_entries := ok_shown_entries T K_shown_entry
    have I_told : VMtI l.prog w (kx K C_System C_Order C_FromRight C_ByWeights C_Desk C_LetterError C_NoLetters C_NoWord C_NoPact C_NoOrder C_NoUse C_NotTurned C_TooFar C_TooMany C_NoRow) mg base 4 "told" 6 [false] g_Desk_told := okI_told T I_letters_row I_order_row I_pact_row I_drop_row K_shown_entries
    have K_law_mixed : VFn l.prog w (kx K C_System C_Order C_FromRight C_ByWeights C_Desk C_LetterError C_NoLetters C_NoWord C_NoPact C_NoOrder C_NoUse C_NotTurned C_TooFar C_TooMany C_NoRow) mg base "_law_mixed" 1 [true, true] g_law_mixed := ok_law_mixed T
    have K_law_word : VFn l.prog w (kx K C_System C_Order C_FromRight C_ByWeights C_Desk C_LetterError C_NoLetters C_NoWord C_NoPact C_NoOrder C_NoUse C_NotTurned C_TooFar C_TooMany C_NoRow) mg base "_law_word" 1 [true, true, true] g_law_word := ok_law_word T
    have K_law_pact : VFn l.prog w (kx K C_System C_Order C_FromRight C_ByWeights C_Desk C_LetterError C_NoLetters C_NoWord C_NoPact C_NoOrder C_NoUse C_NotTurned C_TooFar C_TooMany C_NoRow) mg base "_law_pact" 2 [true, true, true] g_law_pact := ok_law_pact T K_law_word
    have K_law_shown : VFn l.prog w (kx K C_System C_Order C_FromRight C_ByWeights C_Desk C_LetterError C_NoLetters C_NoWord C_NoPact C_NoOrder C_NoUse C_NotTurned C_TooFar C_TooMany C_NoRow) mg base "_law_shown" 1 [false] g_law_shown := ok_law_shown T
    have K_law_row : VFn l.prog w (kx K C_System C_Order C_FromRight C_ByWeights C_Desk C_LetterError C_NoLetters C_NoWord C_NoPact C_NoOrder C_NoUse C_NotTurned C_TooFar C_TooMany C_NoRow) mg base "_law_row" 3 [true, true] g_law_row := ok_law_row T K_law_mixed K_law_letters K_law_pact K_law_shown
    have K_law_told : VFnI l.prog w (kx K C_System C_Order C_FromRight C_ByWeights C_Desk C_LetterError C_NoLetters C_NoWord C_NoPact C_NoOrder C_NoUse C_NotTurned C_TooFar C_TooMany C_NoRow) mg base "_law_told" 7 0 [false] g_law_told := ok_law_told T I_told
    have K_law_due : VFn l.prog w (kx K C_System C_Order C_FromRight C_ByWeights C_Desk C_LetterError C_NoLetters C_NoWord C_NoPact C_NoOrder C_NoUse C_NotTurned C_TooFar C_TooMany C_NoRow) mg base "_law_due" 1 [false, true] g_law_due := ok_law_due T
    exact (fn_law F T N_Desk K_law_letters K_law_cell_at I_told K_law_row K_law_told K_law_due).imp (law_sp (κ := (kx K C_System C_Order C_FromRight C_ByWeights C_Desk C_LetterError C_NoLetters C_NoWord C_NoPact C_NoOrder C_NoUse C_NotTurned C_TooFar C_TooMany C_NoRow)) law_true)
end Lw
open PySem PySem.W PyProof.Rows
set_option maxRecDepth 100000 in
set_option maxHeartbeats 0 in
theorem PySem.Challenge.cw_letterlaw_k91_rows_holds : PySem.Challenge.rw_letterlaw_k91_rows.Holds := by
  w_on; o_law; k_head; (case hw => w_witness2)
  k_fill
  refine Vs.walk_law (l := PySem.Challenge.rw_letterlaw_k91_rows) (x := "_law_script") (k := 8) rfl rfl ⟨rfl, by decide, by decide⟩ (fun w h Y => by first | exact PySem.W.kIn_of Y | exact PySem.W.km_in_of Y) ?F
  case F =>
    intro w mg fa h KX G hmg
    refine' Lw.all_mk KX G hmg ?xg_LetterError ?xg_NoLetters ?xg_NoWord ?xg_NoPact ?xg_NoOrder ?xg_NoUse ?xg_NotTurned ?xg_TooFar ?xg_TooMany ?xg_NoRow ?xe_NoLetters ?kp_NoLetters ?sb_NoLetters ?ty_NoLetters ?xe_NoOrder ?kp_NoOrder ?sb_NoOrder ?ty_NoOrder ?xe_NoRow ?kp_NoRow ?sb_NoRow ?ty_NoRow ?xL_NoWord ?bv_NoWord ?sa_NoWord ?ga_NoWord ?gg_NoWord ?nf_NoWord ?in_NoWord ?tf_NoWord ?li_NoWord ?ci_NoWord ?kp_NoWord ?sb_NoWord ?ty_NoWord ?hd_NoWord ?ic_NoWord ?su_NoWord_NoWord ?xe_NoPact ?kp_NoPact ?sb_NoPact ?ty_NoPact ?xe_TooMany ?kp_TooMany ?sb_TooMany ?ty_TooMany ?sb_LetterError ?ic_LetterError ?ty_LetterError ?su_LetterError_LetterError ?su_NoLetters_LetterError ?su_NoWord_LetterError ?su_NoPact_LetterError ?su_NoOrder_LetterError ?su_NoUse_LetterError ?su_NotTurned_LetterError ?su_TooFar_LetterError ?su_TooMany_LetterError ?su_NoRow_LetterError ?xhn ?xht ?ga_LetterError ?gg_LetterError ?hc_LetterError ?mo_LetterError ?ic_TooMany ?su_LetterError_TooMany ?ne_LetterError_TooMany ?ic_NoLetters ?ga_NoLetters ?gg_NoLetters ?hc_NoLetters ?mo_NoLetters ?su_NoLetters_TooMany ?ne_NoLetters_TooMany ?hc_NoWord ?mo_NoWord ?su_NoWord_TooMany ?ne_NoWord_TooMany ?ic_NoPact ?ga_NoPact ?gg_NoPact ?hc_NoPact ?mo_NoPact ?su_NoPact_TooMany ?ne_NoPact_TooMany ?ic_NoOrder ?ga_NoOrder ?gg_NoOrder ?hc_NoOrder ?mo_NoOrder ?su_NoOrder_TooMany ?ne_NoOrder_TooMany ?ic_NoUse ?ga_NoUse ?gg_NoUse ?sb_NoUse ?hc_NoUse ?mo_NoUse ?su_NoUse_TooMany ?ne_NoUse_TooMany ?ic_NotTurned ?ga_NotTurned ?gg_NotTurned ?sb_NotTurned ?hc_NotTurned ?mo_NotTurned ?su_NotTurned_TooMany ?ne_NotTurned_TooMany ?ic_TooFar ?ga_TooFar ?gg_TooFar ?sb_TooFar ?hc_TooFar ?mo_TooFar ?su_TooFar_TooMany ?ne_TooFar_TooMany ?ga_TooMany ?gg_TooMany ?hc_TooMany ?mo_TooMany ?ic_NoRow ?ga_NoRow ?gg_NoRow ?hc_NoRow ?mo_NoRow ?su_NoRow_TooMany ?ne_NoRow_TooMany ?su_LetterError_NoRow ?ne_LetterError_NoRow ?su_NoLetters_NoRow ?ne_NoLetters_NoRow ?su_NoWord_NoRow ?ne_NoWord_NoRow ?su_NoPact_NoRow ?ne_NoPact_NoRow ?su_NoOrder_NoRow ?ne_NoOrder_NoRow ?su_NoUse_NoRow ?ne_NoUse_NoRow ?su_NotTurned_NoRow ?ne_NotTurned_NoRow ?su_TooFar_NoRow ?ne_TooFar_NoRow ?su_TooMany_NoRow ?ne_TooMany_NoRow ?su_LetterError_NoOrder ?ne_LetterError_NoOrder ?su_NoLetters_NoOrder ?ne_NoLetters_NoOrder ?su_NoWord_NoOrder ?ne_NoWord_NoOrder ?su_NoPact_NoOrder ?ne_NoPact_NoOrder ?su_NoUse_NoOrder ?ne_NoUse_NoOrder ?su_NotTurned_NoOrder ?ne_NotTurned_NoOrder ?su_TooFar_NoOrder ?ne_TooFar_NoOrder ?su_TooMany_NoOrder ?ne_TooMany_NoOrder ?su_NoRow_NoOrder ?ne_NoRow_NoOrder ?su_LetterError_NoWord ?ne_LetterError_NoWord ?su_NoLetters_NoWord ?ne_NoLetters_NoWord ?su_NoPact_NoWord ?ne_NoPact_NoWord ?su_NoOrder_NoWord ?ne_NoOrder_NoWord ?su_NoUse_NoWord ?ne_NoUse_NoWord ?su_NotTurned_NoWord ?ne_NotTurned_NoWord ?su_TooFar_NoWord ?ne_TooFar_NoWord ?su_TooMany_NoWord ?ne_TooMany_NoWord ?su_NoRow_NoWord ?ne_NoRow_NoWord ?cg_System ?pg_System ?hd_System ?po_System ?sa_System ?na_System_order ?cg_Desk ?pg_Desk ?hd_Desk ?po_Desk ?sa_Desk ?na_Desk_order ?na_Desk_pacts ?cg_Order ?pg_Order ?hd_Order ?po_Order ?sa_Order ?na_Order_letters ?cg_FromRight ?pg_FromRight ?hd_FromRight ?po_FromRight ?sa_FromRight ?na_FromRight_letters ?cg_ByWeights ?pg_ByWeights ?hd_ByWeights ?po_ByWeights ?sa_ByWeights ?na_ByWeights_letters ?na_ByWeights_weights ?mt_Order___init__ ?if5 ?l5 ?c5 ?k5 ?rd_Order ?rg_Order ?fc_Order ?mt_Desk_drop_row ?if16 ?l16 ?c16 ?k16 ?mt_Desk_letters_row ?if6 ?l6 ?c6 ?k6 ?mt_Desk_order_row ?if9 ?l9 ?c9 ?k9 ?mt_Desk_pact_row ?if13 ?l13 ?c13 ?k13 ?mt_Desk_told ?if21 ?l21 ?c21 ?k21 ?mt_ByWeights___init__ ?if8 ?l8 ?c8 ?k8 ?mk_ByWeights ?kc_ByWeights ?mt_Desk___init__ ?if1 ?l1 ?c1 ?k1 ?mk_Desk ?kc_Desk ?mt_FromRight___init__ ?mk_FromRight ?kc_FromRight ?mk_Order ?kc_Order ?a2 ?l2 ?c2 ?k2 ?a3 ?l3 ?c3 ?k3 ?a4 ?l4 ?c4 ?k4 ?a7 ?l7 ?c7 ?k7 ?a10 ?l10 ?c10 ?k10 ?dl10 ?a11 ?l11 ?c11 ?k11 ?dl11 ?a12 ?l12 ?c12 ?k12 ?dl12 ?a14 ?l14 ?c14 ?k14 ?a15 ?l15 ?c15 ?k15 ?a17 ?l17 ?c17 ?k17 ?a18 ?l18 ?c18 ?k18 ?a19 ?l19 ?c19 ?k19 ?a20 ?l20 ?c20 ?k20 ?a22 ?l22 ?c22 ?k22 ?a23 ?l23 ?c23 ?k23 ?a24 ?l24 ?c24 ?k24 ?a25 ?l25 ?c25 ?k25 ?a26 ?l26 ?c26 ?k26 ?a27 ?l27 ?c27 ?k27 ?a28 ?l28 ?c28 ?k28 ?a29 ?l29 ?c29 ?k29 ?z_range ?z_len ?m_SMALL ?m_FIGURES ?z_int ?z_list ?m_MOST_SIDE ?m_MOST_PACTS ?z_str ?z_isinstance
    (case xg_LetterError => k_is)
    (case xg_NoLetters => k_is)
    (case xg_NoWord => k_is)
    (case xg_NoPact => k_is)
    (case xg_NoOrder => k_is)
    (case xg_NoUse => k_is)
    (case xg_NotTurned => k_is)
    (case xg_TooFar => k_is)
    (case xg_TooMany => k_is)
    (case xg_NoRow => k_is)
    (case xe_NoLetters => k_exc)
    (case kp_NoLetters => k_is)
    (case sb_NoLetters => k_is)
    (case ty_NoLetters => k_is)
    (case xe_NoOrder => k_exc)
    (case kp_NoOrder => k_is)
    (case sb_NoOrder => k_is)
    (case ty_NoOrder => k_is)
    (case xe_NoRow => k_exc)
    (case kp_NoRow => k_is)
    (case sb_NoRow => k_is)
    (case ty_NoRow => k_is)
    (case xL_NoWord => k_is)
    (case bv_NoWord => first | rfl | decide +kernel)
    (case sa_NoWord => k_is)
    (case ga_NoWord => k_is)
    (case gg_NoWord => k_is)
    (case nf_NoWord => k_is)
    (case in_NoWord => k_is)
    (case tf_NoWord => k_is)
    (case li_NoWord => k_is)
    (case ci_NoWord => k_is)
    (case kp_NoWord => k_is)
    (case sb_NoWord => k_is)
    (case ty_NoWord => k_is)
    (case hd_NoWord => k_is)
    (case ic_NoWord => k_is)
    (case su_NoWord_NoWord => first | rfl | k_is)
    (case xe_NoPact => k_exc)
    (case kp_NoPact => k_is)
    (case sb_NoPact => k_is)
    (case ty_NoPact => k_is)
    (case xe_TooMany => k_exc)
    (case kp_TooMany => k_is)
    (case sb_TooMany => k_is)
    (case ty_TooMany => k_is)
    (case sb_LetterError => k_is)
    (case ic_LetterError => k_is)
    (case ty_LetterError => k_is)
    (case su_LetterError_LetterError => first | rfl | k_is)
    (case su_NoLetters_LetterError => first | rfl | k_is)
    (case su_NoWord_LetterError => first | rfl | k_is)
    (case su_NoPact_LetterError => first | rfl | k_is)
    (case su_NoOrder_LetterError => first | rfl | k_is)
    (case su_NoUse_LetterError => first | rfl | k_is)
    (case su_NotTurned_LetterError => first | rfl | k_is)
    (case su_TooFar_LetterError => first | rfl | k_is)
    (case su_TooMany_LetterError => first | rfl | k_is)
    (case su_NoRow_LetterError => first | rfl | k_is)
    (case xhn => k_is)
    (case xht => k_is)
    (case ga_LetterError => k_is)
    (case gg_LetterError => k_is)
    (case hc_LetterError => k_is)
    (case mo_LetterError => k_is)
    (case ic_TooMany => k_is)
    (case su_LetterError_TooMany => first | rfl | k_is)
    (case ne_LetterError_TooMany => first | rfl | decide +kernel)
    (case ic_NoLetters => k_is)
    (case ga_NoLetters => k_is)
    (case gg_NoLetters => k_is)
    (case hc_NoLetters => k_is)
    (case mo_NoLetters => k_is)
    (case su_NoLetters_TooMany => first | rfl | k_is)
    (case ne_NoLetters_TooMany => first | rfl | decide +kernel)
    (case hc_NoWord => k_is)
    (case mo_NoWord => k_is)
    (case su_NoWord_TooMany => first | rfl | k_is)
    (case ne_NoWord_TooMany => first | rfl | decide +kernel)
    (case ic_NoPact => k_is)
    (case ga_NoPact => k_is)
    (case gg_NoPact => k_is)
    (case hc_NoPact => k_is)
    (case mo_NoPact => k_is)
    (case su_NoPact_TooMany => first | rfl | k_is)
    (case ne_NoPact_TooMany => first | rfl | decide +kernel)
    (case ic_NoOrder => k_is)
    (case ga_NoOrder => k_is)
    (case gg_NoOrder => k_is)
    (case hc_NoOrder => k_is)
    (case mo_NoOrder => k_is)
    (case su_NoOrder_TooMany => first | rfl | k_is)
    (case ne_NoOrder_TooMany => first | rfl | decide +kernel)
    (case ic_NoUse => k_is)
    (case ga_NoUse => k_is)
    (case gg_NoUse => k_is)
    (case sb_NoUse => k_is)
    (case hc_NoUse => k_is)
    (case mo_NoUse => k_is)
    (case su_NoUse_TooMany => first | rfl | k_is)
    (case ne_NoUse_TooMany => first | rfl | decide +kernel)
    (case ic_NotTurned => k_is)
    (case ga_NotTurned => k_is)
    (case gg_NotTurned => k_is)
    (case sb_NotTurned => k_is)
    (case hc_NotTurned => k_is)
    (case mo_NotTurned => k_is)
    (case su_NotTurned_TooMany => first | rfl | k_is)
    (case ne_NotTurned_TooMany => first | rfl | decide +kernel)
    (case ic_TooFar => k_is)
    (case ga_TooFar => k_is)
    (case gg_TooFar => k_is)
    (case sb_TooFar => k_is)
    (case hc_TooFar => k_is)
    (case mo_TooFar => k_is)
    (case su_TooFar_TooMany => first | rfl | k_is)
    (case ne_TooFar_TooMany => first | rfl | decide +kernel)
    (case ga_TooMany => k_is)
    (case gg_TooMany => k_is)
    (case hc_TooMany => k_is)
    (case mo_TooMany => k_is)
    (case ic_NoRow => k_is)
    (case ga_NoRow => k_is)
    (case gg_NoRow => k_is)
    (case hc_NoRow => k_is)
    (case mo_NoRow => k_is)
    (case su_NoRow_TooMany => first | rfl | k_is)
    (case ne_NoRow_TooMany => first | rfl | decide +kernel)
    (case su_LetterError_NoRow => first | rfl | k_is)
    (case ne_LetterError_NoRow => first | rfl | decide +kernel)
    (case su_NoLetters_NoRow => first | rfl | k_is)
    (case ne_NoLetters_NoRow => first | rfl | decide +kernel)
    (case su_NoWord_NoRow => first | rfl | k_is)
    (case ne_NoWord_NoRow => first | rfl | decide +kernel)
    (case su_NoPact_NoRow => first | rfl | k_is)
    (case ne_NoPact_NoRow => first | rfl | decide +kernel)
    (case su_NoOrder_NoRow => first | rfl | k_is)
    (case ne_NoOrder_NoRow => first | rfl | decide +kernel)
    (case su_NoUse_NoRow => first | rfl | k_is)
    (case ne_NoUse_NoRow => first | rfl | decide +kernel)
    (case su_NotTurned_NoRow => first | rfl | k_is)
    (case ne_NotTurned_NoRow => first | rfl | decide +kernel)
    (case su_TooFar_NoRow => first | rfl | k_is)
    (case ne_TooFar_NoRow => first | rfl | decide +kernel)
    (case su_TooMany_NoRow => first | rfl | k_is)
    (case ne_TooMany_NoRow => first | rfl | decide +kernel)
    (case su_LetterError_NoOrder => first | rfl | k_is)
    (case ne_LetterError_NoOrder => first | rfl | decide +kernel)
    (case su_NoLetters_NoOrder => first | rfl | k_is)
    (case ne_NoLetters_NoOrder => first | rfl | decide +kernel)
    (case su_NoWord_NoOrder => first | rfl | k_is)
    (case ne_NoWord_NoOrder => first | rfl | decide +kernel)
    (case su_NoPact_NoOrder => first | rfl | k_is)
    (case ne_NoPact_NoOrder => first | rfl | decide +kernel)
    (case su_NoUse_NoOrder => first | rfl | k_is)
    (case ne_NoUse_NoOrder => first | rfl | decide +kernel)
    (case su_NotTurned_NoOrder => first | rfl | k_is)
    (case ne_NotTurned_NoOrder => first | rfl | decide +kernel)
    (case su_TooFar_NoOrder => first | rfl | k_is)
    (case ne_TooFar_NoOrder => first | rfl | decide +kernel)
    (case su_TooMany_NoOrder => first | rfl | k_is)
    (case ne_TooMany_NoOrder => first | rfl | decide +kernel)
    (case su_NoRow_NoOrder => first | rfl | k_is)
    (case ne_NoRow_NoOrder => first | rfl | decide +kernel)
    (case su_LetterError_NoWord => first | rfl | k_is)
    (case ne_LetterError_NoWord => first | rfl | decide +kernel)
    (case su_NoLetters_NoWord => first | rfl | k_is)
    (case ne_NoLetters_NoWord => first | rfl | decide +kernel)
    (case su_NoPact_NoWord => first | rfl | k_is)
    (case ne_NoPact_NoWord => first | rfl | decide +kernel)
    (case su_NoOrder_NoWord => first | rfl | k_is)
    (case ne_NoOrder_NoWord => first | rfl | decide +kernel)
    (case su_NoUse_NoWord => first | rfl | k_is)
    (case ne_NoUse_NoWord => first | rfl | decide +kernel)
    (case su_NotTurned_NoWord => first | rfl | k_is)
    (case ne_NotTurned_NoWord => first | rfl | decide +kernel)
    (case su_TooFar_NoWord => first | rfl | k_is)
    (case ne_TooFar_NoWord => first | rfl | decide +kernel)
    (case su_TooMany_NoWord => first | rfl | k_is)
    (case ne_TooMany_NoWord => first | rfl | decide +kernel)
    (case su_NoRow_NoWord => first | rfl | k_is)
    (case ne_NoRow_NoWord => first | rfl | decide +kernel)
    (case cg_System => k_is)
    (case pg_System => k_is)
    (case hd_System => k_is)
    (case po_System => k_is)
    (case sa_System => k_is)
    (case na_System_order => k_is)
    (case cg_Desk => k_is)
    (case pg_Desk => k_is)
    (case hd_Desk => k_is)
    (case po_Desk => k_is)
    (case sa_Desk => k_is)
    (case na_Desk_order => k_is)
    (case na_Desk_pacts => k_is)
    (case cg_Order => k_is)
    (case pg_Order => k_is)
    (case hd_Order => k_is)
    (case po_Order => k_is)
    (case sa_Order => k_is)
    (case na_Order_letters => k_is)
    (case cg_FromRight => k_is)
    (case pg_FromRight => k_is)
    (case hd_FromRight => k_is)
    (case po_FromRight => k_is)
    (case sa_FromRight => k_is)
    (case na_FromRight_letters => k_is)
    (case cg_ByWeights => k_is)
    (case pg_ByWeights => k_is)
    (case hd_ByWeights => k_is)
    (case po_ByWeights => k_is)
    (case sa_ByWeights => k_is)
    (case na_ByWeights_letters => k_is)
    (case na_ByWeights_weights => k_is)
    (case mt_Order___init__ => k_is)
    (case if5 => k_is)
    (case l5 => k_is)
    (case c5 => k_is)
    (case k5 => k_is)
    (case rd_Order => k_is)
    (case rg_Order => k_is)
    (case fc_Order => k_is)
    (case mt_Desk_drop_row => k_is)
    (case if16 => k_is)
    (case l16 => k_is)
    (case c16 => k_is)
    (case k16 => k_is)
    (case mt_Desk_letters_row => k_is)
    (case if6 => k_is)
    (case l6 => k_is)
    (case c6 => k_is)
    (case k6 => k_is)
    (case mt_Desk_order_row => k_is)
    (case if9 => k_is)
    (case l9 => k_is)
    (case c9 => k_is)
    (case k9 => k_is)
    (case mt_Desk_pact_row => k_is)
    (case if13 => k_is)
    (case l13 => k_is)
    (case c13 => k_is)
    (case k13 => k_is)
    (case mt_Desk_told => k_is)
    (case if21 => k_is)
    (case l21 => k_is)
    (case c21 => k_is)
    (case k21 => k_is)
    (case mt_ByWeights___init__ => k_is)
    (case if8 => k_is)
    (case l8 => k_is)
    (case c8 => k_is)
    (case k8 => k_is)
    (case mk_ByWeights => k_is)
    (case kc_ByWeights => k_is)
    (case mt_Desk___init__ => k_is)
    (case if1 => k_is)
    (case l1 => k_is)
    (case c1 => k_is)
    (case k1 => k_is)
    (case mk_Desk => k_is)
    (case kc_Desk => k_is)
    (case mt_FromRight___init__ => k_is)
    (case mk_FromRight => k_is)
    (case kc_FromRight => k_is)
    (case mk_Order => k_is)
    (case kc_Order => k_is)
    (case a2 => k_is)
    (case l2 => k_is)
    (case c2 => k_is)
    (case k2 => k_is)
    (case a3 => k_is)
    (case l3 => k_is)
    (case c3 => k_is)
    (case k3 => k_is)
    (case a4 => k_is)
    (case l4 => k_is)
    (case c4 => k_is)
    (case k4 => k_is)
    (case a7 => k_is)
    (case l7 => k_is)
    (case c7 => k_is)
    (case k7 => k_is)
    (case a10 => k_is)
    (case l10 => k_is)
    (case c10 => k_is)
    (case k10 => k_is)
    (case dl10 => k_is)
    (case a11 => k_is)
    (case l11 => k_is)
    (case c11 => k_is)
    (case k11 => k_is)
    (case dl11 => k_is)
    (case a12 => k_is)
    (case l12 => k_is)
    (case c12 => k_is)
    (case k12 => k_is)
    (case dl12 => k_is)
    (case a14 => k_is)
    (case l14 => k_is)
    (case c14 => k_is)
    (case k14 => k_is)
    (case a15 => k_is)
    (case l15 => k_is)
    (case c15 => k_is)
    (case k15 => k_is)
    (case a17 => k_is)
    (case l17 => k_is)
    (case c17 => k_is)
    (case k17 => k_is)
    (case a18 => k_is)
    (case l18 => k_is)
    (case c18 => k_is)
    (case k18 => k_is)
    (case a19 => k_is)
    (case l19 => k_is)
    (case c19 => k_is)
    (case k19 => k_is)
    (case a20 => k_is)
    (case l20 => k_is)
    (case c20 => k_is)
    (case k20 => k_is)
    (case a22 => k_is)
    (case l22 => k_is)
    (case c22 => k_is)
    (case k22 => k_is)
    (case a23 => k_is)
    (case l23 => k_is)
    (case c23 => k_is)
    (case k23 => k_is)
    (case a24 => k_is)
    (case l24 => k_is)
    (case c24 => k_is)
    (case k24 => k_is)
    (case a25 => k_is)
    (case l25 => k_is)
    (case c25 => k_is)
    (case k25 => k_is)
    (case a26 => k_is)
    (case l26 => k_is)
    (case c26 => k_is)
    (case k26 => k_is)
    (case a27 => k_is)
    (case l27 => k_is)
    (case c27 => k_is)
    (case k27 => k_is)
    (case a28 => k_is)
    (case l28 => k_is)
    (case c28 => k_is)
    (case k28 => k_is)
    (case a29 => k_is)
    (case l29 => k_is)
    (case c29 => k_is)
    (case k29 => k_is)
    (case z_range => k_is)
    (case z_len => k_is)
    (case m_SMALL => k_is)
    (case m_FIGURES => k_is)
    (case z_int => k_is)
    (case z_list => k_is)
    (case m_MOST_SIDE => k_is)
    (case m_MOST_PACTS => k_is)
    (case z_str => k_is)
    (case z_isinstance => k_is)
