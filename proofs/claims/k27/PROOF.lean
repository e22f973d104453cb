import PyProof.Rows.All
import Wide.All
import OpenK.AllK
import Wide.FinOn
import HandS.ForMost
import HandS.ForExc
import HandS.Wide
import HandS.WideBits
import HandS.IsInst
import HandS.StrMore
import HandS.EndBits
import HandS.Lambda
import HandS.RevRange
import PyProof.EqAt
import PyProof.EqKinds
import PyProof.TupleCall
import Open.SpecLaws
import KE.OsGo
import HandS.ForSpec
import HandS.ExcField
import HandS.TryMany
import HandS.TryOnly
import HandS.Defaults
import HandS.CallSlots
import KE.KExcIs
import HandS.Conv
import KE.DataCmp
import HandS.Deep
import HandS.ClsMeth
import HandS.More
import HandS.SortInts
import HandS.Zip
import HandS.Rev
import HandS.RevTup
import HandS.MapJoin
import PyProof.ListRange
import HandS.Codes
import HandS.HotCalls
import HandS.SuiteRaise
import HandS.SortKw
import KE.SortKeyHeap
import HandS.EndTab
import KE.DataMinMax
import HandS.SetKeys
import PySem.Challenge.RW_letterlaw_k27_straight
set_option Elab.async false
set_option linter.all false
set_option maxRecDepth 100000
set_option maxHeartbeats 2000000
/-! Vs: a reading of a def's text as a plain function over values (lists and tuples as trees), proved over the hand layer once for each construct. -/
namespace Vs
open PySem L2

/-- an error of the program's own: the number of its class, the value of its one attribute -/
structure Ex where
  c : Nat
  a : Option Int
/-- where a caught error stands -/
structure Xo where
  a : Addr
  cls : Value
  d : Option Addr
/-- values as trees -/
inductive D where
  | non | bl (b : Bool) | int (i : Int) | str (w : List Nat) | lst (l : List D) | tup (l : List D) | ob (c : Nat) (l : List D) | scr (ns : List Int) | xn (o : Xo) (x : Ex)
/-- a field of an own object: shared, or a list of its own -/
inductive Fd where
  | sh (d : D) | ow (l : List D)
def Fd.d : Fd → D
  | .sh d => d
  | .ow l => .lst l
/-- own things: a list, an object, a dict -/
inductive O where
  | ls (l : List D) | ob (c : Nat) (fs : List Fd) | dc (kvs : List (D × D)) | sq (t : Bool) (fs : List Fd)
/-- a list or a tuple -/
def sqD : Bool → List D → D
  | true, l => .tup l
  | false, l => .lst l
/-- .. given away -/
def O.d : O → Option D
  | .ls l => some (.lst l)
  | .ob c fs => some (.ob c (fs.map Fd.d))
  | .dc _ => none
  | .sq t fs => some (sqD t (fs.map Fd.d))

def S (w : List Nat) : Str := ⟨w.toArray⟩
theorem S_list (x : Str) : S x.cps.toList = x := by cases x; rfl
theorem S_cps (w : List Nat) : (S w).cps.toList = w := rfl
theorem S_len (w : List Nat) : (S w).length = w.length := by simp [S, Str.length]
theorem S_inj {a b : List Nat} (h : S a = S b) : a = b := by
  have := congrArg (fun z : Str => z.cps.toList) h
  simpa [S_cps] using this

/-- the written part, and what classes are made of -/
structure Kx where
  K : PySem.W.Frag
  cl : Nat → Addr
  fl : Nat → List Str
  xc : Nat → Addr
  xf : Nat → Option Str
  tb : List (Addr × Str)

/-- no code table -/
def nt (o : HO) : Prop := ∀ ps, o ≠ .tbl ps
/-- .. nor a thing told by a truth -/
def pln (o : HO) : Prop := nt o ∧ ∀ φ, o ≠ .ext φ
/-- all stays, but that tables may grow -/
def Grw (H H' : Hp) : Prop := ∀ a o, H a = some o → ∃ o', H' a = some o' ∧ (nt o → o' = o)
theorem Grw.at {H H' : Hp} (h : Grw H H') {a : Addr} {o : HO} (e : H a = some o) (n : nt o := by first | assumption | exact fun _ z => nomatch z | exact And.left (by assumption)) : H' a = some o := by
  obtain ⟨o', h1, h2⟩ := h a o e
  rw [h1, h2 n]
theorem Grw.refl (H : Hp) : Grw H H := fun _ o h => ⟨o, h, fun _ => rfl⟩
theorem Grw.trans {H H1 H2 : Hp} (x : Grw H H1) (y : Grw H1 H2) : Grw H H2 := fun a o e => by
  obtain ⟨o1, h1, n1⟩ := x a o e
  obtain ⟨o2, h2, n2⟩ := y a o1 h1
  exact ⟨o2, h2, fun n => by
    have := n1 n
    subst this
    exact n2 n⟩
theorem gr {H H' : Hp} (s : Same H H') : Grw H H' := fun a o e => ⟨o, s a o e, fun _ => rfl⟩
instance {H H' : Hp} : Coe (Same H H') (Grw H H') := ⟨gr⟩
/-- the shared part of a heap; the tables stand -/
structure Sub (κ : Kx) (G H : Hp) : Prop where
  s : Same G H
  n : ∀ a o, G a = some o → nt o
  t : LamX.Tabs κ.tb H
instance {κ : Kx} {G H : Hp} : CoeFun (Sub κ G H) fun _ => ∀ a o, G a = some o → H a = some o := ⟨fun z => z.s⟩
instance {κ : Kx} {G H : Hp} : CoeOut (Sub κ G H) (Same G H) := ⟨Sub.s⟩
/-- tables stand where tables and truths stay -/
theorem tabs_of {T : List (Addr × Str)} {H H' : Hp} (t : LamX.Tabs T H) (k : ∀ a o, H a = some o → ¬ pln o → H' a = some o) : LamX.Tabs T H' := fun p hp => by
  obtain ⟨ps, h1, h2, h3⟩ := t p hp
  refine ⟨ps, k _ _ h1 fun z => z.1 ps rfl, h2, fun pos cv hc => ?_⟩
  obtain ⟨c, e1, e2⟩ := h3 pos cv hc
  exact ⟨c, e1, k _ _ e2 fun z => z.2 _ rfl⟩
theorem Sub.kept {κ : Kx} {G H H' : Hp} (z : Sub κ G H) (k : ∀ a o, H a = some o → H' a = some o) : Sub κ G H' := ⟨fun a o e => k a o (z.s a o e), z.n, tabs_of z.t fun a o e _ => k a o e⟩
def XR (κ : Kx) (H : Hp) (x : Ex) (c : Value) (d : Option Addr) : Prop := c = .ref (κ.xc x.c) ∧ match κ.xf x.c, x.a with
  | none, _ => d = none
  | some f, some z => ∃ b, d = some b ∧ H b = some (.xd [(f, .int z)])
  | some _, none => False
mutual
inductive Rp (κ : Kx) (G : Hp) : V → D → Prop
  | non : Rp κ G .non .non
  | bl (b : Bool) : Rp κ G (.bl b) (.bl b)
  | int (i : Int) : Rp κ G (.int i) (.int i)
  | str (w : List Nat) : Rp κ G (.str (S w)) (.str w)
  | lst {a : Addr} {xs : List V} {ds : List D} : G a = some (.lst xs) → RpA κ G xs ds → Rp κ G (.ref a) (.lst ds)
  | tup {a : Addr} {xs : List V} {ds : List D} : G a = some (.tup xs) → RpA κ G xs ds → Rp κ G (.ref a) (.tup ds)
  | ob {a dx : Addr} {c : Nat} {fs : List (Str × V)} {ds : List D} : G a = some (.ins (κ.cl c) dx fs) → fs.map Prod.fst = (κ.fl c).take ds.length → RpA κ G (fs.map Prod.snd) ds → Rp κ G (.ref a) (.ob c ds)
  | scr {a : Addr} {ns : List Int} : SqL κ.K G a (ns.map V.int) → Rp κ G (.ref a) (.scr ns)
  | xn {o : Xo} {x : Ex} : XR κ G x o.cls o.d → Rp κ G (.ref o.a) (.xn o x)
inductive RpA (κ : Kx) (G : Hp) : List V → List D → Prop
  | nil : RpA κ G [] []
  | cons {v : V} {vs : List V} {d : D} {ds : List D} : Rp κ G v d → RpA κ G vs ds → RpA κ G (v :: vs) (d :: ds)
end

theorem same_rd {H H' : Hp} {a : Addr} {u : HO} (e : Same H H') (h : Rd H a u) : Rd H' a u := by
  rcases h with h | ⟨o, h⟩
  · exact Or.inl (e a _ h)
  · exact Or.inr ⟨o, e a _ h⟩
theorem grw_rd {H H' : Hp} {a : Addr} {u : HO} (e : Grw H H') (n : nt u) (h : Rd H a u) : Rd H' a u := by
  rcases h with h | ⟨o, h⟩
  · exact Or.inl (e.at h)
  · exact Or.inr ⟨o, e.at h⟩
theorem same_l {K : PySem.W.Frag} {H H' : Hp} {a : Addr} {xs : List V} (e : Grw H H') (h : SqL K H a xs) : SqL K H' a xs := h.imp (grw_rd e fun _ z => nomatch z) id
theorem same_t {K : PySem.W.Frag} {H H' : Hp} {a : Addr} {xs : List V} (e : Grw H H') (h : SqT K H a xs) : SqT K H' a xs := h.imp (grw_rd e fun _ z => nomatch z) id

section
variable {κ : Kx} {G G' H H' : Hp}
theorem XR.mono (e : Same G G') {x : Ex} {c : Value} {d : Option Addr} (h : XR κ G x c d) : XR κ G' x c d := by
  refine ⟨h.1, ?_⟩
  have h2 := h.2
  split at h2
  · exact h2
  · obtain ⟨b, h3, h4⟩ := h2
    exact ⟨b, h3, e _ _ h4⟩
  · exact h2
mutual
theorem Rp.mono (e : Same G G') : ∀ {v : V} {d : D}, Rp κ G v d → Rp κ G' v d
  | _, _, .non => .non
  | _, _, .bl b => .bl b
  | _, _, .int i => .int i
  | _, _, .str w => .str w
  | _, _, .lst h t => .lst (e _ _ h) (RpA.mono e t)
  | _, _, .tup h t => .tup (e _ _ h) (RpA.mono e t)
  | _, _, .scr h => .scr (same_l e h)
  | _, _, .xn h => .xn (h.mono e)
  | _, _, .ob h1 h2 t => .ob (e _ _ h1) h2 (RpA.mono e t)
theorem RpA.mono (e : Same G G') : ∀ {vs : List V} {ds : List D}, RpA κ G vs ds → RpA κ G' vs ds
  | _, _, .nil => .nil
  | _, _, .cons h t => .cons (Rp.mono e h) (RpA.mono e t)
end
theorem RpA.length : ∀ {vs : List V} {ds : List D}, RpA κ G vs ds → vs.length = ds.length
  | _, _, .nil => rfl
  | _, _, .cons _ t => by simp [RpA.length t]
theorem RpA.get : ∀ {vs : List V} {ds : List D} {i : Nat} {v : V}, RpA κ G vs ds → vs[i]? = some v → ∃ d, ds[i]? = some d ∧ Rp κ G v d
  | _, _, _, _, .nil, e => by simp at e
  | _, _, 0, _, .cons r _, e => by simp at e; subst e; exact ⟨_, rfl, r⟩
  | _, _, i + 1, v, .cons _ t, e => by
    obtain ⟨d, h1, h2⟩ := RpA.get (i := i) (v := v) t (by simpa using e)
    exact ⟨d, by simpa using h1, h2⟩
theorem RpA.getD : ∀ {vs : List V} {ds : List D} {i : Nat} {d : D}, RpA κ G vs ds → ds[i]? = some d → ∃ v, vs[i]? = some v ∧ Rp κ G v d
  | _, _, _, _, .nil, e => by simp at e
  | _, _, 0, _, .cons r _, e => by simp at e; subst e; exact ⟨_, rfl, r⟩
  | _, _, i + 1, v, .cons _ t, e => by
    obtain ⟨d, h1, h2⟩ := RpA.getD (i := i) (d := v) t (by simpa using e)
    exact ⟨d, by simpa using h1, h2⟩
theorem RpA.append : ∀ {vs us : List V} {ds es : List D}, RpA κ G vs ds → RpA κ G us es → RpA κ G (vs ++ us) (ds ++ es)
  | _, _, _, _, .nil, s => s
  | _, _, _, _, .cons r t, s => .cons r (RpA.append t s)
theorem RpA.take : ∀ {vs : List V} {ds : List D} (n : Nat), RpA κ G vs ds → RpA κ G (vs.take n) (ds.take n)
  | _, _, 0, _ => by simpa using RpA.nil
  | _, _, _ + 1, .nil => by simpa using RpA.nil
  | _, _, n + 1, .cons r t => .cons r (RpA.take n t)
theorem RpA.drop : ∀ {vs : List V} {ds : List D} (n : Nat), RpA κ G vs ds → RpA κ G (vs.drop n) (ds.drop n)
  | _, _, 0, r => r
  | _, _, _ + 1, .nil => by simpa using RpA.nil
  | _, _, n + 1, .cons _ t => RpA.drop n t
theorem RpA.set {v : V} {d : D} (r : Rp κ G v d) : ∀ {vs : List V} {ds : List D} (n : Nat), RpA κ G vs ds → RpA κ G (vs.set n v) (ds.set n d)
  | _, _, _, .nil => .nil
  | _, _, 0, .cons _ t => .cons r t
  | _, _, n + 1, .cons q t => .cons q (RpA.set r n t)
theorem RpA.rev : ∀ {vs : List V} {ds : List D}, RpA κ G vs ds → RpA κ G vs.reverse ds.reverse
  | _, _, .nil => .nil
  | _, _, .cons r t => by
    rw [List.reverse_cons, List.reverse_cons]
    exact (RpA.rev t).append (.cons r .nil)
theorem RpA.ints : ∀ ns : List Int, RpA κ G (ns.map V.int) (ns.map D.int)
  | [] => .nil
  | n :: r => .cons (.int n) (RpA.ints r)
theorem RpA.strs : ∀ ws : List (List Nat), RpA κ G (ws.map fun w => V.str (S w)) (ws.map D.str)
  | [] => .nil
  | n :: r => .cons (.str n) (RpA.strs r)
end

/-! ### own things -/
/-- the shared part of the heap, and each slot's own addresses -/
structure Gh where
  g : Hp
  fp : Nat → List Addr
instance : Coe Gh Hp := ⟨Gh.g⟩
def Gh.up (G : Gh) (p : Addr) (o : HO) : Gh := ⟨upd G.g p o, G.fp⟩
def Gh.put (G : Gh) (i : Nat) (F : List Addr) : Gh := ⟨G.g, fun j => if j = i then F else G.fp j⟩
inductive RFs (κ : Kx) (H G : Hp) : List V → List Fd → List Addr → Prop
  | nil : RFs κ H G [] [] []
  | sh {v : V} {vs : List V} {d : D} {fs : List Fd} {F : List Addr} : Rp κ G v d → RFs κ H G vs fs F → RFs κ H G (v :: vs) (.sh d :: fs) F
  | ow {a : Addr} {xs : List V} {l : List D} {vs : List V} {fs : List Fd} {F : List Addr} : H a = some (.lst xs) → G a = none → RpA κ G xs l → a ∉ F → RFs κ H G vs fs F → RFs κ H G (.ref a :: vs) (.ow l :: fs) (a :: F)
def kD : Key → D
  | .inl i => .int i
  | .inr x => .str x.cps.toList
inductive RDc (κ : Kx) (G : Hp) : List (Key × V) → List (D × D) → Prop
  | nil : RDc κ G [] []
  | cons {k : Key} {v : V} {d : D} {r : List (Key × V)} {ds : List (D × D)} : Rp κ G v d → RDc κ G r ds → RDc κ G ((k, v) :: r) ((kD k, d) :: ds)
def sqH : Bool → List V → HO
  | true, xs => .tup xs
  | false, xs => .lst xs
inductive RO (κ : Kx) (H G : Hp) : V → O → List Addr → Prop
  | ls {a : Addr} {xs : List V} {l : List D} : H a = some (.lst xs) → G a = none → RpA κ G xs l → RO κ H G (.ref a) (.ls l) [a]
  | ob {a dx : Addr} {c : Nat} {ys : List (Str × V)} {fs : List Fd} {F : List Addr} : H a = some (.ins (κ.cl c) dx ys) → G a = none → ys.map Prod.fst = (κ.fl c).take fs.length → RFs κ H G (ys.map Prod.snd) fs F → a ∉ F → RO κ H G (.ref a) (.ob c fs) (a :: F)
  | dc {a : Addr} {kvs : List (Key × V)} {ds : List (D × D)} : H a = some (.dK kvs) → G a = none → RDc κ G kvs ds → RO κ H G (.ref a) (.dc ds) [a]
  | sq {a : Addr} {t : Bool} {xs : List V} {fs : List Fd} {F : List Addr} : H a = some (sqH t xs) → G a = none → RFs κ H G xs fs F → a ∉ F → RO κ H G (.ref a) (.sq t fs) (a :: F)
section
variable {κ : Kx} {G G' H H' : Hp} {v : V} {vs : List V} {fs : List Fd} {o : O} {F : List Addr} {a : Addr}
theorem RFs.own : ∀ {vs : List V} {fs : List Fd} {F : List Addr}, RFs κ H G vs fs F → ∀ {a : Addr}, a ∈ F → (∃ o, H a = some o) ∧ G a = none
  | _, _, _, .nil, a, h => by cases h
  | _, _, _, .sh _ t, a, h => RFs.own t h
  | _, _, _, .ow h1 h2 _ _ t, a, h => by
    rcases List.mem_cons.mp h with e | h
    · subst e; exact ⟨⟨_, h1⟩, h2⟩
    · exact RFs.own t h
theorem RO.own (r : RO κ H G v o F) (h : a ∈ F) : (∃ o, H a = some o) ∧ G a = none := by
  cases r with
  | ls h1 h2 _ =>
    have e := List.mem_singleton.mp h
    subst e
    exact ⟨⟨_, h1⟩, h2⟩
  | ob h1 h2 _ t _ =>
    rcases List.mem_cons.mp h with e | h
    · subst e; exact ⟨⟨_, h1⟩, h2⟩
    · exact t.own h
  | sq h1 h2 t _ =>
    rcases List.mem_cons.mp h with e | h
    · subst e; exact ⟨⟨_, h1⟩, h2⟩
    · exact t.own h
  | dc h1 h2 _ =>
    have e := List.mem_singleton.mp h
    subst e
    exact ⟨⟨_, h1⟩, h2⟩
theorem sqH_pln (t : Bool) (xs : List V) : pln (sqH t xs) := by
  cases t <;> exact ⟨(fun _ z => nomatch z), (fun _ z => nomatch z)⟩
theorem RFs.pl : ∀ {vs : List V} {fs : List Fd} {F : List Addr}, RFs κ H G vs fs F → ∀ {a : Addr} {u : HO}, a ∈ F → H a = some u → pln u
  | _, _, _, .nil, a, u, h, e => by cases h
  | _, _, _, .sh _ t, a, u, h, e => RFs.pl t h e
  | _, _, _, .ow h1 h2 _ _ t, a, u, h, e => by
    rcases List.mem_cons.mp h with z | h
    · subst z
      rw [h1] at e
      cases e
      exact ⟨(fun _ z => nomatch z), (fun _ z => nomatch z)⟩
    · exact RFs.pl t h e
theorem RO.pl (r : RO κ H G v o F) {u : HO} (h : a ∈ F) (e : H a = some u) : pln u := by
  cases r with
  | ls h1 h2 _ =>
    have z := List.mem_singleton.mp h
    subst z
    rw [h1] at e
    cases e
    exact ⟨(fun _ z => nomatch z), (fun _ z => nomatch z)⟩
  | ob h1 h2 _ t _ =>
    rcases List.mem_cons.mp h with z | h
    · subst z
      rw [h1] at e
      cases e
      exact ⟨(fun _ z => nomatch z), (fun _ z => nomatch z)⟩
    · exact t.pl h e
  | sq h1 h2 t _ =>
    rcases List.mem_cons.mp h with z | h
    · subst z
      rw [h1] at e
      cases e
      exact sqH_pln _ _
    · exact t.pl h e
  | dc h1 h2 _ =>
    have z := List.mem_singleton.mp h
    subst z
    rw [h1] at e
    cases e
    exact ⟨(fun _ z => nomatch z), (fun _ z => nomatch z)⟩
theorem RFs.grow (g : Same G G') : ∀ {vs : List V} {fs : List Fd} {F : List Addr}, RFs κ H G vs fs F → (∀ a o, a ∈ F → H a = some o → H' a = some o) → (∀ a, a ∈ F → G' a = none) → RFs κ H' G' vs fs F
  | _, _, _, .nil, _, _ => .nil
  | _, _, _, .sh r t, h, n => .sh (r.mono g) (RFs.grow g t h n)
  | _, _, _, .ow h1 h2 r m t, h, n => .ow (h _ _ List.mem_cons_self h1) (n _ List.mem_cons_self) (r.mono g) m (RFs.grow g t (fun a o q => h a o (List.mem_cons_of_mem _ q)) fun a q => n a (List.mem_cons_of_mem _ q))
theorem RDc.mono (g : Same G G') : ∀ {kvs : List (Key × V)} {ds : List (D × D)}, RDc κ G kvs ds → RDc κ G' kvs ds
  | _, _, .nil => .nil
  | _, _, .cons r t => .cons (r.mono g) (RDc.mono g t)
theorem RO.grow (g : Same G G') (r : RO κ H G v o F) (h : ∀ a o, a ∈ F → H a = some o → H' a = some o) (n : ∀ a, a ∈ F → G' a = none) : RO κ H' G' v o F := by
  cases r with
  | ls h1 h2 t => exact .ls (h _ _ List.mem_cons_self h1) (n _ List.mem_cons_self) (t.mono g)
  | ob h1 h2 h3 t m => exact .ob (h _ _ List.mem_cons_self h1) (n _ List.mem_cons_self) h3 (t.grow g (fun a o q => h a o (List.mem_cons_of_mem _ q)) fun a q => n a (List.mem_cons_of_mem _ q)) m
  | dc h1 h2 t => exact .dc (h _ _ List.mem_cons_self h1) (n _ List.mem_cons_self) (t.mono g)
  | sq h1 h2 t m => exact .sq (h _ _ List.mem_cons_self h1) (n _ List.mem_cons_self) (t.grow g (fun a o q => h a o (List.mem_cons_of_mem _ q)) fun a q => n a (List.mem_cons_of_mem _ q)) m
open Classical in
/-- own addresses given away -/
noncomputable def frzG (H G : Hp) (F : List Addr) : Hp := fun a => if a ∈ F then H a else G a
theorem frz_in (h : a ∈ F) : frzG H G F a = H a := by unfold frzG; rw [if_pos h]
theorem frz_out (h : a ∉ F) : frzG H G F a = G a := by unfold frzG; rw [if_neg h]
theorem same_frz (n : ∀ a, a ∈ F → G a = none) : Same G (frzG H G F) := fun a o e => by
  by_cases h : a ∈ F
  · rw [n a h] at e; cases e
  · rw [frz_out h]; exact e
theorem frz_same (s : Same G H) : Same (frzG H G F) H := fun a o e => by
  by_cases h : a ∈ F
  · rw [frz_in h] at e; exact e
  · rw [frz_out h] at e; exact s a o e
theorem frz_sub (s : Sub κ G H) (h : ∀ a o, a ∈ F → H a = some o → nt o) : Sub κ (frzG H G F) H := ⟨frz_same s.s, fun a o e => by
  by_cases m : a ∈ F
  · rw [frz_in m] at e; exact h a o m e
  · rw [frz_out m] at e; exact s.n a o e, s.t⟩
theorem RFs.frz {G0 : Hp} (g : Same G G0) : ∀ {vs : List V} {fs : List Fd} {F : List Addr}, RFs κ H G vs fs F → (∀ a, a ∈ F → G0 a = H a) → RpA κ G0 vs (fs.map Fd.d)
  | _, _, _, .nil, _ => .nil
  | _, _, _, .sh r t, h => .cons (r.mono g) (RFs.frz g t h)
  | _, _, _, .ow h1 h2 r m t, h => .cons (.lst (by rw [h _ List.mem_cons_self]; exact h1) (r.mono g)) (RFs.frz g t fun a q => h a (List.mem_cons_of_mem _ q))
theorem RO.frz {d : D} (r : RO κ H G v o F) (e : o.d = some d) : Rp κ (frzG H G F) v d := by
  have g : Same G (frzG H G F) := same_frz fun a q => (r.own q).2
  cases r with
  | ls h1 h2 t => cases e; exact .lst (by rw [frz_in List.mem_cons_self]; exact h1) (t.mono g)
  | ob h1 h2 h3 t m =>
    cases e
    exact .ob (by rw [frz_in List.mem_cons_self]; exact h1) (by rw [List.length_map]; exact h3) (t.frz g fun a q => by rw [frz_in (List.mem_cons_of_mem _ q)])
  | dc h1 h2 t => cases e
  | @sq a b xs fs F h1 h2 t m =>
    have r := t.frz g fun c q => by rw [frz_in (List.mem_cons_of_mem _ q)]
    cases b with
    | true => cases e; exact .tup (by rw [frz_in List.mem_cons_self]; exact h1) r
    | false => cases e; exact .lst (by rw [frz_in List.mem_cons_self]; exact h1) r
theorem RO.ls_inv {l : List D} (r : RO κ H G v (.ls l) F) : ∃ a xs, v = .ref a ∧ F = [a] ∧ H a = some (.lst xs) ∧ G a = none ∧ RpA κ G xs l := by
  cases r with
  | ls h1 h2 h3 => exact ⟨_, _, rfl, rfl, h1, h2, h3⟩
theorem RO.at (r : RO κ H G v o F) : ∃ a, v = .ref a ∧ a ∈ F := by
  cases r <;> exact ⟨_, rfl, List.mem_cons_self⟩
end

/-- a slot: nothing told; a value that all may hold; a list of the def's own (unlocked, locked by a loop); a list that is only read here; an own thing that was handed in to be changed; an own thing -/
inductive Sl where
  | un | sh (d : D) | ow (l : List D) | lk (l : List D) | bo (l : List D) | io (o : O) | tr (o : O)
def Sl.th : Sl → Option O
  | .ow l => some (.ls l)
  | .lk l => some (.ls l)
  | .io o => some o
  | .tr o => some o
  | _ => none
def Sl.mut : Sl → Bool
  | .ow _ => true
  | .io _ => true
  | .tr _ => true
  | _ => false
abbrev En := List Sl

def Mt (G : Gh) (env : En) (a : Addr) : Prop := ∃ (i : Nat) (s : Sl), env[i]? = some s ∧ s.mut = true ∧ a ∈ G.fp i
def Own (G : Gh) (env : En) (i : Nat) (a : Addr) : Prop := ∃ s o, env[i]? = some s ∧ s.th = some o ∧ a ∈ G.fp i
def RSl (κ : Kx) (H G : Hp) (v : Option (Option V)) (F : List Addr) : Sl → Prop
  | .un => F = []
  | .sh d => F = [] ∧ ∃ x, v = some (some x) ∧ Rp κ G x d
  | .bo l => ∃ a xs, v = some (some (.ref a)) ∧ H a = some (.lst xs) ∧ RpA κ G xs l ∧ F = [a]
  | .ow l => ∃ x, v = some (some x) ∧ RO κ H G x (.ls l) F
  | .lk l => ∃ x, v = some (some x) ∧ RO κ H G x (.ls l) F
  | .io o => ∃ x, v = some (some x) ∧ RO κ H G x o F
  | .tr o => ∃ x, v = some (some x) ∧ RO κ H G x o F
theorem RSl.th {κ : Kx} {H G : Hp} {v : Option (Option V)} {F : List Addr} {s : Sl} {o : O} (r : RSl κ H G v F s) (h : s.th = some o) : ∃ x, v = some (some x) ∧ RO κ H G x o F := by
  cases s <;> cases h <;> exact r
theorem RSl.of {κ : Kx} {H G : Hp} {v : Option (Option V)} {F : List Addr} {s : Sl} {o : O} {x : V} (h : s.th = some o) (e : v = some (some x)) (r : RO κ H G x o F) : RSl κ H G v F s := by
  cases s <;> cases h <;> exact ⟨x, e, r⟩
theorem mut_th {s : Sl} (h : s.mut = true) : ∃ o, s.th = some o := by
  cases s <;> first
    | (cases h; done)
    | exact ⟨_, rfl⟩
structure Rep (κ : Kx) (H : Hp) (G : Gh) (σ : L2.St) (env : En) : Prop where
  sub : Sub κ G.g H
  len : σ.length = env.length
  slot : ∀ (i : Nat) (s : Sl), env[i]? = some s → RSl κ H G σ[i]? (G.fp i) s
  inj : ∀ (i j : Nat) (a : Addr) (t : Sl), Own G env i a → env[j]? = some t → a ∈ G.fp j → i = j
def Sl.fix : Sl → Bool
  | .lk _ => true
  | .bo _ => true
  | .io _ => true
  | _ => false
/-- what a fixed slot was before -/
def Sl.was : Sl → Sl → Prop
  | .io _, s => ∃ o, s = .io o
  | t, s => s = t
/-- a locked slot, and a list that is only read, stand as they were; what was handed in stands where it stood -/
def Lk (G : Gh) (σ : L2.St) (env : En) (G' : Gh) (σ' : L2.St) (env' : En) : Prop := ∀ (i : Nat) (s : Sl), s.fix = true → env'[i]? = some s → ∃ s0, env[i]? = some s0 ∧ s.was s0 ∧ σ'[i]? = σ[i]? ∧ (s0 = s → s.mut = false → G'.fp i = G.fp i)
/-- only the def's own unlocked things may have changed, what is shared stays shared; no old thing has become the def's own -/
structure Fr (H : Hp) (G : Gh) (σ : L2.St) (env : En) (H' : Hp) (G' : Gh) (σ' : L2.St) (env' : En) : Prop where
  hk : ∀ a o, H a = some o → ¬ Mt G env a → ∃ o', H' a = some o' ∧ (nt o → o' = o)
  gk : Same G G'
  gn : ∀ a o, H a = some o → G.g a = none → ¬ Mt G env a → G'.g a = none
  mm : ∀ a o, H a = some o → Mt G' env' a → Mt G env a
  lk : Lk G σ env G' σ' env'
/-- .. where the def ends -/
structure FrR (H : Hp) (G : Gh) (σ : L2.St) (env : En) (H' : Hp) (G' : Gh) : Prop where
  hk : ∀ a o, H a = some o → ¬ Mt G env a → ∃ o', H' a = some o' ∧ (nt o → o' = o)
  gk : Same G G'
  gn : ∀ a o, H a = some o → G.g a = none → ¬ Mt G env a → G'.g a = none
theorem was_refl {s : Sl} (h : s.fix = true) : s.was s := by
  cases s <;> first
    | (cases h; done)
    | rfl
    | exact ⟨_, rfl⟩
theorem was_fix {s t : Sl} (h : s.fix = true) (w : s.was t) : t.fix = true := by
  cases s <;> first
    | (cases h; done)
    | (obtain ⟨o, rfl⟩ := w; rfl)
    | (cases w; rfl)
theorem was_trans {s t u : Sl} (h : s.fix = true) (w : s.was t) (z : t.was u) : s.was u := by
  cases s <;> first
    | (cases h; done)
    | (obtain ⟨o, rfl⟩ := w; exact z)
    | (cases w; exact z)
theorem was_eq {s t : Sl} (h : s.mut = false) (f : s.fix = true) (w : s.was t) : t = s := by
  cases s <;> first
    | (cases f; done)
    | (cases h; done)
    | exact w
theorem Lk.refl {G : Gh} {σ : L2.St} {env : En} : Lk G σ env G σ env := fun _ s f h => ⟨s, h, was_refl f, rfl, fun _ _ => rfl⟩
theorem Fr.at {H H' : Hp} {G G' : Gh} {σ σ' : L2.St} {env env' : En} (f : Fr H G σ env H' G' σ' env') {a : Addr} {o : HO} (e : H a = some o) (m : ¬ Mt G env a) (n : nt o := by first | assumption | exact fun _ z => nomatch z | exact And.left (by assumption)) : H' a = some o := by
  obtain ⟨o', h1, h2⟩ := f.hk a o e m
  rw [h1, h2 n]
/-- one change behind another -/
theorem hk_trans {H1 H2 : Hp} {a : Addr} {o : HO} (x : ∃ o', H1 a = some o' ∧ (nt o → o' = o)) (y : ∀ o', H1 a = some o' → ∃ o2, H2 a = some o2 ∧ (nt o' → o2 = o')) : ∃ o', H2 a = some o' ∧ (nt o → o' = o) := by
  obtain ⟨o1, h1, n1⟩ := x
  obtain ⟨o2, h2, n2⟩ := y o1 h1
  exact ⟨o2, h2, fun n => by
    have := n1 n
    subst this
    exact n2 n⟩
theorem Fr.refl {H : Hp} {G : Gh} {σ : L2.St} {env : En} : Fr H G σ env H G σ env := ⟨fun _ o h _ => ⟨o, h, fun _ => rfl⟩, Same.refl _, fun _ _ _ h _ => h, fun _ _ _ h => h, Lk.refl⟩
theorem Fr.trans {H H1 H2 : Hp} {G G1 G2 : Gh} {σ σ1 σ2 : L2.St} {env env1 env2 : En} (x : Fr H G σ env H1 G1 σ1 env1) (y : Fr H1 G1 σ1 env1 H2 G2 σ2 env2) : Fr H G σ env H2 G2 σ2 env2 where
  hk := fun a o h n => hk_trans (x.hk a o h n) fun o' e => y.hk a o' e fun m => n (x.mm a o h m)
  gk := x.gk.trans y.gk
  gn := fun a o h g n => by
    obtain ⟨o', e, _⟩ := x.hk a o h n
    exact y.gn a o' e (x.gn a o h g n) fun m => n (x.mm a o h m)
  mm := fun a o h m => by
    by_cases n : Mt G env a
    · exact n
    · obtain ⟨o', e, _⟩ := x.hk a o h n
      exact x.mm a o h (y.mm a o' e m)
  lk := fun i l z h => by
    obtain ⟨s1, h1, w1, e1, f1⟩ := y.lk i l z h
    obtain ⟨s2, h2, w2, e2, f2⟩ := x.lk i s1 (was_fix z w1) h1
    refine ⟨s2, h2, was_trans z w1 w2, e1.trans e2, fun q m => ?_⟩
    have q1 := was_eq m z w1
    subst q1
    exact (f1 rfl m).trans (f2 q m)
theorem Fr.toR {H H1 H2 : Hp} {G G1 G2 : Gh} {σ σ1 : L2.St} {env env1 : En} (x : Fr H G σ env H1 G1 σ1 env1) (y : FrR H1 G1 σ1 env1 H2 G2) : FrR H G σ env H2 G2 where
  hk := fun a o h n => hk_trans (x.hk a o h n) fun o' e => y.hk a o' e fun m => n (x.mm a o h m)
  gk := x.gk.trans y.gk
  gn := fun a o h g n => by
    obtain ⟨o', e, _⟩ := x.hk a o h n
    exact y.gn a o' e (x.gn a o h g n) fun m => n (x.mm a o h m)
/-- nothing that stood has changed -/
theorem Fr.same {H H' : Hp} {G G' : Gh} {σ : L2.St} {env env' : En} (s : Grw H H') (g : Same G G') (gn : ∀ a o, H a = some o → G.g a = none → ¬ Mt G env a → G'.g a = none) (mm : ∀ a o, H a = some o → Mt G' env' a → Mt G env a) (l : ∀ (i : Nat) (s : Sl), s.fix = true → env'[i]? = some s → env[i]? = some s ∧ G'.fp i = G.fp i) :
    Fr H G σ env H' G' σ env' := ⟨fun a o h _ => s a o h, g, gn, mm, fun i m z h => ⟨m, (l i m z h).1, was_refl z, rfl, fun _ _ => (l i m z h).2⟩⟩

/-! ### results -/
inductive Rs where
  | sh (d : D) | ow (l : List D) | tr (o : O)
def Rs.d : Rs → Option D
  | .sh d => some d
  | .ow l => some (.lst l)
  | .tr o => o.d
inductive Q (α : Type) where
  | ok (a : α) (e : En) | ex (x : Ex) (e : En)
abbrev Sm (α : Type) := En → Option (Q α)
def bnd {α β : Type} (m : Sm α) (f : α → Sm β) : Sm β := fun e => match m e with
  | none => none
  | some (.ok a e') => f a e'
  | some (.ex x e') => some (.ex x e')
def ret {α : Type} (a : α) : Sm α := fun e => some (.ok a e)

/-- how a reading's value stands for a result -/
abbrev Rl (α β : Type) := L2.St → (Addr → Prop) → Hp → Gh → En → β → α → Prop
/-- an address that is in no slot -/
def Fre (G : Gh) (env : En) (a : Addr) : Prop := ∀ i s, env[i]? = some s → a ∉ G.fp i
def RV (κ : Kx) : Rl Rs V := fun _ N H G env v r => match r with
  | .sh d => Rp κ G v d
  | .ow l => ∃ a xs, v = .ref a ∧ H a = some (.lst xs) ∧ G.g a = none ∧ RpA κ G xs l ∧ Fre G env a ∧ N a
  | .tr o => ∃ F, RO κ H G v o F ∧ ∀ a, a ∈ F → Fre G env a ∧ N a
def RB (κ : Kx) : Rl D V := fun _ _ H G _ v d => Rp κ G v d ∨ ∃ a xs l, d = .lst l ∧ v = .ref a ∧ H a = some (.lst xs) ∧ RpA κ G xs l
def RT : Rl Bool Bool := fun _ _ _ _ _ b c => b = c
inductive RBs (κ : Kx) (H G : Hp) : List Bool → List V → List D → Prop
  | nil : RBs κ H G [] [] []
  | sh {ms : List Bool} {v : V} {vs : List V} {d : D} {ds : List D} : Rp κ G v d → RBs κ H G ms vs ds → RBs κ H G (false :: ms) (v :: vs) (d :: ds)
  | bo {ms : List Bool} {v : V} {vs : List V} {d : D} {ds : List D} : (Rp κ G v d ∨ ∃ a xs l, d = .lst l ∧ v = .ref a ∧ H a = some (.lst xs) ∧ RpA κ G xs l) → RBs κ H G ms vs ds → RBs κ H G (true :: ms) (v :: vs) (d :: ds)
def RA (κ : Kx) (ms : List Bool) : Rl (List D) (List V) := fun _ _ H G _ vs ds => RBs κ H G ms vs ds

class RlMono {α β : Type} (R : Rl α β) : Prop where
  mono : ∀ {σ : L2.St} {N N' : Addr → Prop} {H : Hp} {G : Gh} {env : En} {b : β} {a : α}, (∀ c, N c → N' c) → R σ N H G env b a → R σ N' H G env b a
instance {κ : Kx} : RlMono (RV κ) := ⟨fun {σ N N' H G env v r} h q => by
  cases r with
  | sh d => exact q
  | ow l =>
    obtain ⟨a, xs, h1, h2, h3, h4, h5, h6⟩ := q
    exact ⟨a, xs, h1, h2, h3, h4, h5, h _ h6⟩
  | tr o =>
    obtain ⟨F, h1, h2⟩ := q
    exact ⟨F, h1, fun a m => ⟨(h2 a m).1, h _ (h2 a m).2⟩⟩⟩
instance {κ : Kx} : RlMono (RB κ) := ⟨fun _ q => q⟩
instance : RlMono RT := ⟨fun _ q => q⟩
instance {κ : Kx} {ms : List Bool} : RlMono (RA κ ms) := ⟨fun _ q => q⟩

/-- fresh, or the def's own -/
def Nw (H : Hp) (G : Gh) (env : En) (a : Addr) : Prop := ∀ o, H a = some o → Mt G env a
section
variable {α β : Type}
/-- .. that may change what is the def's own -/
def EPostI (κ : Kx) (W : WX) (R : Rl α β) (σ : L2.St) (H : Hp) (G : Gh) (env : En) (o : Option (Q α)) (P : β → Hp → Prop) : Prop := match o with
  | none => False
  | some (.ok a env') => ∀ v H' G', Rep κ H' G' σ env' → R σ (Nw H G env) H' G' env' v a → Fr H G σ env H' G' σ env' → P v H'
  | some (.ex x env') => ∀ c d H' G', Rep κ H' G' σ env' → XR κ G' x c d → Fr H G σ env H' G' σ env' → W c d σ H'
def EPost (κ : Kx) (W : WX) (R : Rl α β) (σ : L2.St) (H : Hp) (G : Gh) (env : En) (o : Option (Q α)) (P : β → Hp → Prop) : Prop := match o with
  | none => False
  | some (.ok a env') => ∀ v H' G', Rep κ H' G' σ env' → R σ (Nw H G env) H' G' env' v a → Grw H H' → Fr H G σ env H' G' σ env' → P v H'
  | some (.ex x env') => ∀ c d H' G', Rep κ H' G' σ env' → XR κ G' x c d → Grw H H' → Fr H G σ env H' G' σ env' → W c d σ H'
/-- the reading of a plain function -/
def tX (κ : Kx) (W : WX) (R : Rl α β) (m : Sm α) : L2.St → Hp → (β → Hp → Prop) → Prop := fun σ H P => ∃ G env, Rep κ H G σ env ∧ EPost κ W R σ H G env (m env) P
def tI (κ : Kx) (W : WX) (R : Rl α β) (m : Sm α) : L2.St → Hp → (β → Hp → Prop) → Prop := fun σ H P => ∃ G env, Rep κ H G σ env ∧ EPostI κ W R σ H G env (m env) P
variable {κ : Kx} {W : WX} {R : Rl α β} {σ : L2.St} {H H1 : Hp} {G G1 : Gh} {env env1 : En}
theorem EPostI.pu {o : Option (Q α)} {P : β → Hp → Prop} (h : EPostI κ W R σ H G env o P) : EPost κ W R σ H G env o P := by
  cases o with
  | none => exact h
  | some q => cases q with
    | ok a e => exact fun v H' G' a b _ d => h v H' G' a b d
    | ex x e => exact fun c d H' G' a b _ f => h c d H' G' a b f
theorem tI.pu {m : Sm α} {P : β → Hp → Prop} (h : tI κ W R m σ H P) : tX κ W R m σ H P := by
  obtain ⟨G, env, r, q⟩ := h
  exact ⟨G, env, r, q.pu⟩
theorem EPost.mono {o : Option (Q α)} {P P' : β → Hp → Prop} (h : EPost κ W R σ H G env o P) (k : ∀ v H', P v H' → P' v H') : EPost κ W R σ H G env o P' := by
  cases o with
  | none => exact h
  | some q => cases q with
    | ok a e => exact fun v H' G' a b c d => k _ _ (h v H' G' a b c d)
    | ex x e => exact h
theorem EPostI.mono {o : Option (Q α)} {P P' : β → Hp → Prop} (h : EPostI κ W R σ H G env o P) (k : ∀ v H', P v H' → P' v H') : EPostI κ W R σ H G env o P' := by
  cases o with
  | none => exact h
  | some q => cases q with
    | ok a e => exact fun v H' G' a b c => k _ _ (h v H' G' a b c)
    | ex x e => exact h
theorem tX.mono {m : Sm α} {P P' : β → Hp → Prop} (h : tX κ W R m σ H P) (k : ∀ v H', P v H' → P' v H') : tX κ W R m σ H P' := by
  obtain ⟨G, env, r, q⟩ := h
  exact ⟨G, env, r, q.mono k⟩
theorem EPost.shift [RlMono R] {o : Option (Q α)} {P : β → Hp → Prop} (s : Grw H H1) (f : Fr H G σ env H1 G1 σ env1) (h : EPost κ W R σ H G env o P) : EPost κ W R σ H1 G1 env1 o P := by
  cases o with
  | none => exact h
  | some q => cases q with
    | ok a e => exact fun v H' G' r1 r2 s2 f2 => h v H' G' r1 (RlMono.mono (fun c n o e => by obtain ⟨o', e', _⟩ := s c o e; exact f.mm c o e (n o' e')) r2) (s.trans s2) (f.trans f2)
    | ex x e => exact fun c d H' G' r1 r2 s2 f2 => h c d H' G' r1 r2 (s.trans s2) (f.trans f2)
theorem Nw.shift {σ1 : L2.St} (f : Fr H G σ env H1 G1 σ1 env1) {c : Addr} (n : Nw H1 G1 env1 c) : Nw H G env c := fun o e => by
  by_cases m : Mt G env c
  · exact m
  · obtain ⟨o', e', _⟩ := f.hk c o e m
    exact f.mm c o e (n o' e')
theorem EPostI.shift [RlMono R] {o : Option (Q α)} {P : β → Hp → Prop} (f : Fr H G σ env H1 G1 σ env1) (h : EPostI κ W R σ H G env o P) : EPostI κ W R σ H1 G1 env1 o P := by
  cases o with
  | none => exact h
  | some q => cases q with
    | ok a e => exact fun v H' G' r1 r2 f2 => h v H' G' r1 (RlMono.mono (fun c n => n.shift f) r2) (f.trans f2)
    | ex x e => exact fun c d H' G' r1 r2 f2 => h c d H' G' r1 r2 (f.trans f2)
end
/-- two in a row -/
theorem bind_post {α β γ δ : Type} {κ : Kx} {W : WX} {R : Rl α β} {R2 : Rl γ δ} [RlMono R2] {σ : L2.St} {H : Hp} {G : Gh} {env : En} {m : Sm α} {f : α → Sm γ} {P : δ → Hp → Prop} (r : Rep κ H G σ env) (h : EPost κ W R2 σ H G env (bnd m f env) P)
    {P' : β → Hp → Prop} (k : ∀ a env1 v H1 G1, m env = some (.ok a env1) → Rep κ H1 G1 σ env1 → R σ (Nw H G env) H1 G1 env1 v a → Grw H H1 → Fr H G σ env H1 G1 σ env1 → EPost κ W R2 σ H1 G1 env1 (f a env1) P → P' v H1) :
    tX κ W R m σ H P' := by
  refine ⟨G, env, r, ?_⟩
  unfold bnd at h
  cases e : m env with
  | none => rw [e] at h; exact h
  | some q => cases q with
    | ok a e1 =>
      rw [e] at h
      exact fun v H1 G1 r1 r2 s2 f2 => k a e1 v H1 G1 e r1 r2 s2 f2 (EPost.shift s2 f2 h)
    | ex x e1 =>
      rw [e] at h
      exact h
theorem bind_postI {α β γ δ : Type} {κ : Kx} {W : WX} {R : Rl α β} {R2 : Rl γ δ} [RlMono R2] {σ : L2.St} {H : Hp} {G : Gh} {env : En} {m : Sm α} {f : α → Sm γ} {P : δ → Hp → Prop} (r : Rep κ H G σ env) (h : EPostI κ W R2 σ H G env (bnd m f env) P)
    {P' : β → Hp → Prop} (k : ∀ a env1 v H1 G1, m env = some (.ok a env1) → Rep κ H1 G1 σ env1 → R σ (Nw H G env) H1 G1 env1 v a → Fr H G σ env H1 G1 σ env1 → EPostI κ W R2 σ H1 G1 env1 (f a env1) P → P' v H1) :
    tI κ W R m σ H P' := by
  refine ⟨G, env, r, ?_⟩
  unfold bnd at h
  cases e : m env with
  | none => rw [e] at h; exact h
  | some q => cases q with
    | ok a e1 =>
      rw [e] at h
      exact fun v H1 G1 r1 r2 f2 => k a e1 v H1 G1 e r1 r2 f2 (EPostI.shift f2 h)
    | ex x e1 =>
      rw [e] at h
      exact h

/-! ### statements -/
inductive SO where
  | nx (e : En) | bk (e : En) | ct (e : En) | rt (r : Rs) | rv (r : Rs) (e : En) | ex (x : Ex) (e : En)
abbrev Ss := En → Option SO
/-- a def hands back -/
def RR (κ : Kx) (N : Addr → Prop) (H : Hp) (G : Hp) (v : V) : Rs → Prop
  | .sh d => Rp κ G v d
  | .ow l => ∃ a xs, v = .ref a ∧ H a = some (.lst xs) ∧ G a = none ∧ RpA κ G xs l ∧ N a
  | .tr o => ∃ F, RO κ H G v o F ∧ ∀ a, a ∈ F → N a
def SPost (κ : Kx) (W : WX) (σ : L2.St) (H : Hp) (G : Gh) (env : En) (o : Option SO) (D : Ends) : Prop := match o with
  | none => False
  | some (.nx env') => ∀ σ' H' G', Rep κ H' G' σ' env' → Fr H G σ env H' G' σ' env' → D.nx σ' H'
  | some (.bk env') => ∀ σ' H' G', Rep κ H' G' σ' env' → Fr H G σ env H' G' σ' env' → D.bk σ' H'
  | some (.ct env') => ∀ σ' H' G', Rep κ H' G' σ' env' → Fr H G σ env H' G' σ' env' → D.ct σ' H'
  | some (.rt r) => ∀ v H' (G' : Gh), Sub κ G'.g H' → RR κ (Nw H G env) H' G' v r → FrR H G σ env H' G' → D.rt v H'
  | some (.rv r env') => ∀ v σ' H' G', Rep κ H' G' σ' env' → RV κ σ' (Nw H G env) H' G' env' v r → Fr H G σ env H' G' σ' env' → D.rt v H'
  | some (.ex x env') => ∀ c d σ' H' G', Rep κ H' G' σ' env' → XR κ G' x c d → Fr H G σ env H' G' σ' env' → W c d σ' H'
def tS (κ : Kx) (W : WX) (m : Ss) : TS := fun D σ H => ∃ G env, Rep κ H G σ env ∧ SPost κ W σ H G env (m env) D
section
variable {κ : Kx} {W : WX} {σ σ1 : L2.St} {H H1 : Hp} {G G1 : Gh} {env env1 : En} {D D' : Ends}
theorem RR.mono {G : Hp} {N N' : Addr → Prop} {v : V} {r : Rs} (h : ∀ c, N c → N' c) (q : RR κ N H G v r) : RR κ N' H G v r := by
  cases r with
  | sh d => exact q
  | ow l =>
    obtain ⟨a, xs, h1, h2, h3, h4, h5⟩ := q
    exact ⟨a, xs, h1, h2, h3, h4, h _ h5⟩
  | tr o =>
    obtain ⟨F, h1, h2⟩ := q
    exact ⟨F, h1, fun a m => h _ (h2 a m)⟩
theorem SPost.mono {o : Option SO} (h : SPost κ W σ H G env o D) (k1 : ∀ s h, D.nx s h → D'.nx s h) (k2 : ∀ s h, D.bk s h → D'.bk s h) (k3 : ∀ s h, D.ct s h → D'.ct s h) (k4 : ∀ s h, D.rt s h → D'.rt s h) : SPost κ W σ H G env o D' := by
  cases o with
  | none => exact h
  | some q => cases q with
    | nx e => exact fun σ' H' G' a b => k1 _ _ (h σ' H' G' a b)
    | bk e => exact fun σ' H' G' a b => k2 _ _ (h σ' H' G' a b)
    | ct e => exact fun σ' H' G' a b => k3 _ _ (h σ' H' G' a b)
    | rt r => exact fun v H' G' a b c => k4 _ _ (h v H' G' a b c)
    | rv r e => exact fun v σ' H' G' a b c => k4 _ _ (h v σ' H' G' a b c)
    | ex x e => exact h
theorem SPost.shift {o : Option SO} (f : Fr H G σ env H1 G1 σ1 env1) (h : SPost κ W σ H G env o D) : SPost κ W σ1 H1 G1 env1 o D := by
  cases o with
  | none => exact h
  | some q => cases q with
    | nx e => exact fun σ' H' G' a b => h σ' H' G' a (f.trans b)
    | bk e => exact fun σ' H' G' a b => h σ' H' G' a (f.trans b)
    | ct e => exact fun σ' H' G' a b => h σ' H' G' a (f.trans b)
    | rt r => exact fun v H' G' a b c => h v H' G' a (b.mono fun _ n => n.shift f) (f.toR c)
    | rv r e => exact fun v σ' H' G' a b c => h v σ' H' G' a (RlMono.mono (fun _ n => n.shift f) b) (f.trans c)
    | ex x e => exact fun c d σ' H' G' a b g => h c d σ' H' G' a b (f.trans g)
end
/-- an expression in a statement -/
def sbnd {α : Type} (m : Sm α) (f : α → Ss) : Ss := fun e => match m e with
  | none => none
  | some (.ok a e') => f a e'
  | some (.ex x e') => some (.ex x e')
theorem sbind_post {α β : Type} {κ : Kx} {W : WX} {R : Rl α β} {σ : L2.St} {H : Hp} {G : Gh} {env : En} {m : Sm α} {f : α → Ss} {D : Ends} (r : Rep κ H G σ env) (h : SPost κ W σ H G env (sbnd m f env) D)
    {P' : β → Hp → Prop} (k : ∀ a env1 v H1 G1, m env = some (.ok a env1) → Rep κ H1 G1 σ env1 → R σ (Nw H G env) H1 G1 env1 v a → Fr H G σ env H1 G1 σ env1 → SPost κ W σ H1 G1 env1 (f a env1) D → P' v H1) :
    tI κ W R m σ H P' := by
  refine ⟨G, env, r, ?_⟩
  unfold sbnd at h
  cases e : m env with
  | none => rw [e] at h; exact h
  | some q => cases q with
    | ok a e1 =>
      rw [e] at h
      exact fun v H1 G1 r1 r2 f2 => k a e1 v H1 G1 e r1 r2 f2 (SPost.shift f2 h)
    | ex x e1 =>
      rw [e] at h
      exact fun c d H' G' a b g => h c d σ H' G' a b g
/-! ### heaps and slots -/
section
variable {κ : Kx} {W : WX} {σ : L2.St} {H H' : Hp} {G G' : Gh} {env : En} {p : Addr} {xs : List V} {l : List D}
theorem Rep.grow (r : Rep κ H G σ env) (h : Grw H H') (g : Same G G') (s : Sub κ G'.g H') (f : ∀ i, G'.fp i = G.fp i) (o : ∀ i a, Own G env i a → G'.g a = none) : Rep κ H' G' σ env where
  sub := s
  len := r.len
  slot := fun i s e => by
    have q := r.slot i s e
    rw [f i]
    have th : ∀ {o : O}, s.th = some o → RSl κ H' G' σ[i]? (G.fp i) s := fun {o'} z => by
      obtain ⟨x, e1, e2⟩ := q.th z
      exact .of z e1 (e2.grow g (fun a o m e => h.at e (e2.pl m e).1) fun a m => o i a ⟨s, o', e, z, m⟩)
    cases s with
    | un => exact q
    | sh d =>
      obtain ⟨h0, x, h1, h2⟩ := q
      exact ⟨h0, x, h1, h2.mono g⟩
    | ow l => exact th rfl
    | lk l => exact th rfl
    | io o => exact th rfl
    | tr o => exact th rfl
    | bo l =>
      obtain ⟨a, xs, h1, h2, h4, h5⟩ := q
      exact ⟨a, xs, h1, h.at h2, h4.mono g, h5⟩
  inj := fun i j a t ⟨s, o, e1, e2, m⟩ e3 m3 => by
    rw [f i] at m
    rw [f j] at m3
    exact r.inj i j a t ⟨s, o, e1, e2, m⟩ e3 m3
theorem Rep.own (r : Rep κ H G σ env) {i : Nat} {a : Addr} (o : Own G env i a) : (∃ u, H a = some u) ∧ G.g a = none := by
  obtain ⟨s, o, e, t, m⟩ := o
  obtain ⟨x, e1, e2⟩ := (r.slot i s e).th t
  exact e2.own m
theorem mt_own {a : Addr} (m : Mt G env a) : ∃ i, Own G env i a := by
  obtain ⟨i, s, e, h, m⟩ := m
  obtain ⟨o, t⟩ := mut_th h
  exact ⟨i, s, o, e, t, m⟩
theorem Rep.live (r : Rep κ H G σ env) {i : Nat} {s : Sl} {a : Addr} (e : env[i]? = some s) (m : a ∈ G.fp i) : ∃ u, H a = some u := by
  have q := r.slot i s e
  have th : ∀ {o : O}, s.th = some o → ∃ u, H a = some u := fun {o} t => (r.own ⟨s, o, e, t, m⟩).1
  cases s with
  | un => rw [show G.fp i = [] from q] at m; cases m
  | sh d => rw [q.1] at m; cases m
  | ow l => exact th rfl
  | lk l => exact th rfl
  | io o => exact th rfl
  | tr o => exact th rfl
  | bo l =>
    obtain ⟨b, xs, h1, h2, h4, h5⟩ := q
    rw [h5] at m
    rw [List.mem_singleton.mp m]
    exact ⟨_, h2⟩
theorem Rep.pl (r : Rep κ H G σ env) {i : Nat} {s : Sl} {a : Addr} {o : HO} (e : env[i]? = some s) (m : a ∈ G.fp i) (h : H a = some o) : pln o := by
  have q := r.slot i s e
  have th : ∀ {o' : O}, s.th = some o' → pln o := fun {o'} t => by
    obtain ⟨x, _, e2⟩ := q.th t
    exact e2.pl m h
  cases s with
  | un => rw [show G.fp i = [] from q] at m; cases m
  | sh d => rw [q.1] at m; cases m
  | ow l => exact th rfl
  | lk l => exact th rfl
  | io o => exact th rfl
  | tr o => exact th rfl
  | bo l =>
    obtain ⟨b, xs, h1, h2, h4, h5⟩ := q
    rw [h5] at m
    rw [List.mem_singleton.mp m, h2] at h
    cases h
    exact ⟨(fun _ z => nomatch z), (fun _ z => nomatch z)⟩
theorem Rep.fre (r : Rep κ H G σ env) (hp : H p = none) : Fre G env p := fun i s e m => by
  obtain ⟨u, h⟩ := r.live e m
  rw [hp] at h
  cases h
theorem same_new {H : Hp} {p : Addr} {o : HO} (h : H p = none) : Same H (upd H p o) := fun a u e => by
  rw [upd_ne (ne_of_none e h)]
  exact e
theorem same_upd {G H : Hp} {p : Addr} {o : HO} (s : Same G H) (h : G p = none) : Same G (upd H p o) := fun a u e => by
  rw [upd_ne (ne_of_none e h)]
  exact s a u e
theorem same_both {G H : Hp} {p : Addr} {o : HO} (s : Same G H) : Same (upd G p o) (upd H p o) := fun a u e => by
  by_cases h : a = p
  · subst h; rw [upd_same] at e ⊢; exact e
  · rw [upd_ne h] at e ⊢; exact s a u e
theorem Same.none {G H : Hp} {p : Addr} (s : Same G H) (h : H p = none) : G p = none := by
  cases q : G p with
  | none => rfl
  | some o => rw [s p o q] at h; cases h
theorem Sub.new {κ : Kx} {G H : Hp} {p : Addr} {o : HO} (s : Sub κ G H) (h : H p = none) : Sub κ G (upd H p o) := s.kept (same_new h)
theorem Sub.both {κ : Kx} {G H : Hp} {p : Addr} {o : HO} (s : Sub κ G H) (h : H p = none) (n : nt o) : Sub κ (upd G p o) (upd H p o) := ⟨same_both s.s, fun a u e => by
  by_cases z : a = p
  · rw [z, upd_same] at e
    cases e
    exact n
  · rw [upd_ne z] at e
    exact s.n a u e, tabs_of s.t fun a u e _ => same_new h a u e⟩
theorem Sub.none {κ : Kx} {G H : Hp} {p : Addr} (s : Sub κ G H) (h : H p = none) : G p = none := Same.none s.s h
/-- what stands at the end of a reading's last step -/
structure Stp (κ : Kx) (σ : L2.St) (env : En) (H : Hp) (G : Gh) (H' : Hp) (G' : Gh) : Prop where
  rep : Rep κ H' G' σ env
  same : Grw H H'
  fr : Fr H G σ env H' G' σ env
theorem Stp.refl (r : Rep κ H G σ env) : Stp κ σ env H G H G := ⟨r, Grw.refl _, Fr.refl⟩
theorem fr_upd {o : HO} (hp : H p = none) : Fr H G σ env (upd H p o) G σ env := Fr.same (gr (same_new hp)) (Same.refl _) (fun _ _ _ h _ => h) (fun _ _ _ h => h) fun _ _ _ h => ⟨h, rfl⟩
/-- a new list of the def's own -/
theorem new_ow (r : Rep κ H G σ env) (hp : H p = none) (h : RpA κ G xs l) : Stp κ σ env H G (upd H p (.lst xs)) G ∧ RV κ σ (Nw H G env) (upd H p (.lst xs)) G env (.ref p) (.ow l) := by
  have gp := r.sub.none hp
  refine ⟨⟨r.grow (gr (same_new hp)) (Same.refl _) (r.sub.new hp) (fun _ => rfl) fun i a o => (r.own o).2, gr (same_new hp), fr_upd hp⟩, p, xs, rfl, upd_same, gp, h, r.fre hp, fun o e => ?_⟩
  rw [hp] at e
  cases e
/-- a new own thing at one address -/
theorem new_tr {o : HO} {z : O} (r : Rep κ H G σ env) (hp : H p = none) (h : RO κ (upd H p o) G (.ref p) z [p]) : Stp κ σ env H G (upd H p o) G ∧ RV κ σ (Nw H G env) (upd H p o) G env (.ref p) (.tr z) := by
  have gp := r.sub.none hp
  refine ⟨⟨r.grow (gr (same_new hp)) (Same.refl _) (r.sub.new hp) (fun _ => rfl) fun i a o => (r.own o).2, gr (same_new hp), fr_upd hp⟩, [p], h, fun a m => ?_⟩
  rw [List.mem_singleton.mp m]
  refine ⟨r.fre hp, fun o e => ?_⟩
  rw [hp] at e
  cases e
/-- a new thing that all may hold -/
theorem new_sh {o : HO} (r : Rep κ H G σ env) (hp : H p = none) (hn : nt o := by first | assumption | exact fun _ z => nomatch z) : Stp κ σ env H G (upd H p o) (G.up p o) := by
  have gp := r.sub.none hp
  refine ⟨r.grow (gr (same_new hp)) (same_new gp) (r.sub.both hp hn) (fun _ => rfl) fun i a q => ?_, gr (same_new hp), Fr.same (gr (same_new hp)) (same_new gp) (fun a u h g _ => ?_) (fun _ _ _ h => h) fun _ _ _ h => ⟨h, rfl⟩⟩
  · obtain ⟨⟨u, h⟩, g⟩ := r.own q
    show upd G.g p o a = none
    rw [upd_ne (ne_of_none h hp)]
    exact g
  · show upd G.g p o a = none
    rw [upd_ne (ne_of_none h hp)]
    exact g
/-- own addresses that no slot holds, given away -/
theorem freeze {H0 : Hp} {G0 : Gh} {σ0 : L2.St} {env0 : En} {F : List Addr} (r : Rep κ H G σ env) (hg : ∀ a, a ∈ F → G.g a = none) (f : ∀ a, a ∈ F → Fre G env a) (n : ∀ a, a ∈ F → ∀ o, H0 a = some o → Mt G0 env0 a) (fr : Fr H0 G0 σ0 env0 H G σ env) (hn : ∀ a o, a ∈ F → H a = some o → pln o) :
    Rep κ H ⟨frzG H G F, G.fp⟩ σ env ∧ Fr H0 G0 σ0 env0 H ⟨frzG H G F, G.fp⟩ σ env := by
  have sg : Same G.g (frzG H G F) := same_frz hg
  refine ⟨r.grow (G' := ⟨frzG H G F, G.fp⟩) (Grw.refl _) sg (frz_sub r.sub fun a o m e => (hn a o m e).1) (fun _ => rfl) fun i b o => ?_, fr.hk, fr.gk.trans sg, fun b o e g m => ?_, fr.mm, fr.lk⟩
  · obtain ⟨s, o', e, t, m⟩ := id o
    show frzG H G F b = none
    rw [frz_out fun q => f b q i s e m]
    exact (r.own o).2
  · show frzG H G F b = none
    rw [frz_out fun q => m (n b q o e)]
    exact fr.gn b o e g m
end
/-- .. as a value that all may hold -/
def RP (κ : Kx) : Rl D V := fun _ _ _ G _ v d => Rp κ G v d
instance {κ : Kx} : RlMono (RP κ) := ⟨fun _ q => q⟩
def frz (m : Sm Rs) : Sm D := fun e => match m e with
  | none => none
  | some (.ok r e') => match r.d with
    | some d => some (.ok d e')
    | none => none
  | some (.ex x e') => some (.ex x e')
section
variable {X : Cx} {κ : Kx} {W : WX} {e : Expr}
theorem PE.imp {t t' : TE} (h : PE X e t) (k : ∀ σ H Q, t' σ H Q → t σ H Q) : PE X e t' := ⟨fun pins s σ H Q I q => h.run pins s σ H Q I (k σ H Q q)⟩
theorem PT.imp {t t' : TT} (h : PT X e t) (k : ∀ σ H Q, t' σ H Q → t σ H Q) : PT X e t' := ⟨fun pins s σ H Q I q => h.run pins s σ H Q I (k σ H Q q)⟩
theorem PW.imp {t t' : TT} (h : PW X e t) (k : ∀ σ H Q, t' σ H Q → t σ H Q) : PW X e t' := ⟨fun wh pins s σ H Q I q => h.run wh pins s σ H Q I (k σ H Q q)⟩
theorem PA.imp {es : List Expr} {t t' : TA} (h : PA X es t) (k : ∀ σ H Q, t' σ H Q → t σ H Q) : PA X es t' := ⟨fun pos pins s σ H Q I q => h.run pos pins s σ H Q I (k σ H Q q)⟩
theorem PS.imp {st : Stmt} {t t' : TS} (h : PS X st t) (k : ∀ D σ H, t' D σ H → t D σ H) : PS X st t' := ⟨fun pins s σ H D I q => h.run pins s σ H D I (k D σ H q)⟩
theorem PSs.imp {st : List Stmt} {t t' : TS} (h : PSs X st t) (k : ∀ D σ H, t' D σ H → t D σ H) : PSs X st t' := ⟨fun pins s σ H D I q => h.run pins s σ H D I (k D σ H q)⟩
/-- a reading that changes nothing, as one that may -/
theorem im {α : Type} {R : Rl α V} {m : Sm α} (h : PE X e (tX κ W R m)) : PE X e (tI κ W R m) := PE.imp h fun _ _ _ q => q.pu
theorem im_t {m : Sm Bool} (h : PT X e (tX κ W RT m)) : PT X e (tI κ W RT m) := PT.imp h fun _ _ _ q => q.pu
theorem im_a {α : Type} {R : Rl α (List V)} {m : Sm α} {es : List Expr} (h : PA X es (tX κ W R m)) : PA X es (tI κ W R m) := PA.imp h fun _ _ _ q => q.pu
theorem frz_rv {H : Hp} {G : Gh} {σ : L2.St} {env : En} {H0 : Hp} {G0 : Gh} {σ0 : L2.St} {env0 : En} {v : V} {r : Rs} {d : D} (rp : Rep κ H G σ env) (rv : RV κ σ (Nw H0 G0 env0) H G env v r) (e : r.d = some d) (fr : Fr H0 G0 σ0 env0 H G σ env) :
    ∃ G', Rep κ H G' σ env ∧ Rp κ G' v d ∧ Fr H0 G0 σ0 env0 H G' σ env := by
  cases r with
  | sh d' => cases e; exact ⟨G, rp, rv, fr⟩
  | ow l =>
    cases e
    obtain ⟨a, xs, rfl, h2, h3, h4, h5, h6⟩ := rv
    have ro : RO κ H G (.ref a) (.ls l) [a] := .ls h2 h3 h4
    obtain ⟨g1, g2⟩ := freeze (F := [a]) rp (fun b m => by rw [List.mem_singleton.mp m]; exact h3) (fun b m => by rw [List.mem_singleton.mp m]; exact h5) (fun b m => by rw [List.mem_singleton.mp m]; exact h6) fr fun a o m e => ro.pl m e
    exact ⟨_, g1, ro.frz rfl, g2⟩
  | tr o =>
    obtain ⟨F, ro, h⟩ := rv
    obtain ⟨g1, g2⟩ := freeze (F := F) rp (fun b m => (ro.own m).2) (fun b m => (h b m).1) (fun b m => (h b m).2) fr fun a o m e => ro.pl m e
    exact ⟨_, g1, ro.frz e, g2⟩
/-- a value, given away -/
theorem v_frz {m : Sm Rs} (h : PE X e (tX κ W (RV κ) m)) : PE X e (tX κ W (RP κ) (frz m)) := PE.imp h fun σ H Q ⟨G, env, r, q⟩ => by
  refine ⟨G, env, r, ?_⟩
  unfold frz at q
  cases z : m env with
  | none => rw [z] at q; exact q
  | some y => cases y with
    | ex x e1 => rw [z] at q; exact q
    | ok a e1 =>
      rw [z] at q
      intro v H1 G1 r1 rv s1 f1
      cases w : a.d with
      | none => dsimp only at q; rw [w] at q; exact q.elim
      | some d =>
        dsimp only at q
        rw [w] at q
        obtain ⟨G2, r2, rp, f2⟩ := frz_rv r1 rv w f1
        exact q _ H1 _ r2 rp s1 f2
theorem i_frz {m : Sm Rs} (h : PE X e (tI κ W (RV κ) m)) : PE X e (tI κ W (RP κ) (frz m)) := PE.imp h fun σ H Q ⟨G, env, r, q⟩ => by
  refine ⟨G, env, r, ?_⟩
  unfold frz at q
  cases z : m env with
  | none => rw [z] at q; exact q
  | some y => cases y with
    | ex x e1 => rw [z] at q; exact q
    | ok a e1 =>
      rw [z] at q
      intro v H1 G1 r1 rv f1
      cases w : a.d with
      | none => dsimp only at q; rw [w] at q; exact q.elim
      | some d =>
        dsimp only at q
        rw [w] at q
        obtain ⟨G2, r2, rp, f2⟩ := frz_rv r1 rv w f1
        exact q _ H1 _ r2 rp f2
theorem v_bo {m : Sm D} (h : PE X e (tX κ W (RP κ) m)) : PE X e (tX κ W (RB κ) m) := PE.imp h fun σ H Q ⟨G, env, r, q⟩ => by
  refine ⟨G, env, r, ?_⟩
  cases z : m env with
  | none => rw [z] at q; exact q
  | some y => cases y with
    | ex x e1 => rw [z] at q; exact q
    | ok a e1 =>
      rw [z] at q
      exact fun v H1 G1 r1 r2 s1 f1 => q v H1 G1 r1 (.inl r2) s1 f1
def shm (m : Sm D) : Sm Rs := fun e => match m e with
  | none => none
  | some (.ok d e') => some (.ok (.sh d) e')
  | some (.ex x e') => some (.ex x e')
theorem v_sh {m : Sm D} (h : PE X e (tX κ W (RP κ) m)) : PE X e (tX κ W (RV κ) (shm m)) := PE.imp h fun σ H Q ⟨G, env, r, q⟩ => by
  refine ⟨G, env, r, ?_⟩
  unfold shm at q
  cases z : m env with
  | none => rw [z] at q; exact q
  | some y => cases y with
    | ex x e1 => rw [z] at q; exact q
    | ok a e1 => rw [z] at q; exact q
theorem i_sh {m : Sm D} (h : PE X e (tI κ W (RP κ) m)) : PE X e (tI κ W (RV κ) (shm m)) := PE.imp h fun σ H Q ⟨G, env, r, q⟩ => by
  refine ⟨G, env, r, ?_⟩
  unfold shm at q
  cases z : m env with
  | none => rw [z] at q; exact q
  | some y => cases y with
    | ex x e1 => rw [z] at q; exact q
    | ok a e1 => rw [z] at q; exact q
/-! ### names and constants -/
/-- a name that is only looked at -/
def eB (i : Nat) : Sm D := fun env => match env[i]? with
  | some (.sh d) => some (.ok d env)
  | some (.ow l) => some (.ok (.lst l) env)
  | some (.lk l) => some (.ok (.lst l) env)
  | some (.bo l) => some (.ok (.lst l) env)
  | some (.io (.ls l)) => some (.ok (.lst l) env)
  | _ => none
/-- a name whose value is given away -/
def eV (i : Nat) : Sm D := fun env => match env[i]? with
  | some (.sh d) => some (.ok d env)
  | some (.ow l) => some (.ok (.lst l) (env.set i (.sh (.lst l))))
  | some (.tr o) => match o.d with
    | some d => some (.ok d (env.set i (.sh d)))
    | none => none
  | _ => none
def eC (d : D) : Sm D := fun env => some (.ok d env)
theorem b_var {i : Nat} {x : Str} {pos : Pos} (h : PE X (.Name x pos) (tVar i)) : PE X (.Name x pos) (tX κ W (RB κ) (eB i)) := PE.imp h fun σ H Q ⟨G, env, r, q⟩ => by
  unfold eB at q
  cases z : env[i]? with
  | none => rw [z] at q; exact q.elim
  | some s =>
    have rs := r.slot i s z
    rw [z] at q
    have ls : ∀ {l : List D}, s.th = some (.ls l) → EPost κ W (RB κ) σ H G env (some (.ok (.lst l) env)) Q → tVar i σ H Q := fun {l} t q => by
      obtain ⟨x, e1, e2⟩ := rs.th t
      obtain ⟨a, xs, rfl, _, h1, h2, h3⟩ := e2.ls_inv
      exact ⟨_, e1, q _ H G r (.inr ⟨_, _, l, rfl, rfl, h1, h3⟩) (Grw.refl _) Fr.refl⟩
    cases s with
    | un => exact q.elim
    | sh d =>
      obtain ⟨_, v, h1, h2⟩ := rs
      exact ⟨v, h1, q v H G r (.inl h2) (Grw.refl _) Fr.refl⟩
    | ow l => exact ls rfl q
    | lk l => exact ls rfl q
    | bo l =>
      obtain ⟨a, xs, h1, h2, h4, _⟩ := rs
      exact ⟨_, h1, q _ H G r (.inr ⟨a, xs, l, rfl, rfl, h2, h4⟩) (Grw.refl _) Fr.refl⟩
    | io o =>
      cases o with
      | ls l => exact ls rfl q
      | _ => exact q.elim
    | tr o => exact q.elim
end
section
variable {κ : Kx} {σ : L2.St} {H : Hp} {G : Gh} {env : En}
theorem set_look {env : En} {i j : Nat} {s t : Sl} (h : (env.set i s)[j]? = some t) : (j = i ∧ t = s) ∨ (i ≠ j ∧ env[j]? = some t) := by
  by_cases w : i = j
  · subst w
    by_cases hl : i < env.length
    · rw [List.getElem?_set_self hl] at h
      exact .inl ⟨rfl, (Option.some.inj h).symm⟩
    · rw [List.getElem?_eq_none (by simpa using hl)] at h
      cases h
  · rw [List.getElem?_set_ne w] at h
    exact .inr ⟨w, h⟩
theorem put_at {G : Gh} {i : Nat} {F : List Addr} : (G.put i F).fp i = F := by unfold Gh.put; exact if_pos rfl
theorem put_ne {G : Gh} {i j : Nat} {F : List Addr} (h : i ≠ j) : (G.put i F).fp j = G.fp j := by unfold Gh.put; exact if_neg fun z => h z.symm
/-- slot i told otherwise: its new thing, where nothing else lies -/
theorem Rep.re (r : Rep κ H G σ env) {i : Nat} {s : Sl} {F : List Addr} {H' g' : Hp} {x : Option V} (hi : i < env.length) (sub : Sub κ g' H') (gk : Same G.g g')
    (hs : RSl κ H' g' (some x) F s)
    (ks : ∀ j t a, i ≠ j → env[j]? = some t → a ∈ G.fp j → ∀ o, H a = some o → H' a = some o)
    (kn : ∀ j a, i ≠ j → Own G env j a → g' a = none)
    (new : ∀ a, a ∈ F → ∀ j t, i ≠ j → env[j]? = some t → a ∉ G.fp j) :
    Rep κ H' (Gh.mk g' (G.put i F).fp) (σ.set i x) (env.set i s) := by
  have hσ : i < σ.length := by rw [r.len]; exact hi
  refine ⟨sub, by rw [List.length_set, List.length_set]; exact r.len, fun j t e => ?_, fun j k a t o e m => ?_⟩
  · rcases set_look e with ⟨rfl, rfl⟩ | ⟨w, e1⟩
    · rw [List.getElem?_set_self hσ]
      show RSl κ H' g' _ ((G.put j F).fp j) t
      rw [put_at]
      exact hs
    · rw [List.getElem?_set_ne w]
      show RSl κ H' g' _ ((G.put i F).fp j) t
      rw [put_ne w]
      have q := r.slot j t e1
      have th : ∀ {o : O}, t.th = some o → RSl κ H' g' σ[j]? (G.fp j) t := fun {o'} z => by
        obtain ⟨x, e3, e4⟩ := q.th z
        exact .of z e3 (e4.grow gk (fun a o m e5 => ks j t a w e1 m o e5) fun a m => kn j a w ⟨t, o', e1, z, m⟩)
      cases t with
      | un => exact q
      | sh d =>
        obtain ⟨h0, x, h1, h2⟩ := q
        exact ⟨h0, x, h1, h2.mono gk⟩
      | ow l => exact th rfl
      | lk l => exact th rfl
      | io o => exact th rfl
      | tr o => exact th rfl
      | bo l =>
        obtain ⟨a, xs, h1, h2, h4, h5⟩ := q
        exact ⟨a, xs, h1, ks j (.bo l) a w e1 (by rw [h5]; exact List.mem_singleton_self a) _ h2, h4.mono gk, h5⟩
  · obtain ⟨s', o', e', t', m'⟩ := o
    have m1 : a ∈ (G.put i F).fp j := m'
    have m2 : a ∈ (G.put i F).fp k := m
    clear m m'
    rcases set_look e' with ⟨rfl, rfl⟩ | ⟨w1, e1⟩
    · rw [put_at] at m1
      rcases set_look e with ⟨rfl, rfl⟩ | ⟨w2, e2⟩
      · rfl
      · rw [put_ne w2] at m2
        exact absurd m2 (new a m1 k t w2 e2)
    · rw [put_ne w1] at m1
      rcases set_look e with ⟨rfl, rfl⟩ | ⟨w2, e2⟩
      · rw [put_at] at m2
        exact absurd m1 (new a m2 j s' w1 e1)
      · rw [put_ne w2] at m2
        exact r.inj j k a t ⟨s', o', e1, t', m1⟩ e2 m2
/-- .. what the frame says of it -/
theorem Fr.re {i : Nat} {s s0 : Sl} {F : List Addr} {H' g' : Hp} {x : Option V} (e0 : env[i]? = some s0)
    (hk : ∀ a o, H a = some o → ¬ Mt G env a → ∃ o', H' a = some o' ∧ (nt o → o' = o)) (gk : Same G.g g') (gn : ∀ a o, H a = some o → G.g a = none → ¬ Mt G env a → g' a = none)
    (mm : s.mut = true → ∀ a o, a ∈ F → H a = some o → Mt G env a) (fx : s.fix = true → s.was s0 ∧ x = (σ[i]?).getD none ∧ i < σ.length ∧ s.mut = true) :
    Fr H G σ env H' (Gh.mk g' (G.put i F).fp) (σ.set i x) (env.set i s) where
  hk := hk
  gk := gk
  gn := gn
  mm := fun a o e m => by
    obtain ⟨j, t, e1, h, m⟩ := m
    have m : a ∈ (G.put i F).fp j := m
    rcases set_look e1 with ⟨rfl, rfl⟩ | ⟨w, e2⟩
    · rw [put_at] at m
      exact mm h a o m e
    · rw [put_ne w] at m
      exact ⟨j, t, e2, h, m⟩
  lk := fun j t f e => by
    rcases set_look e with ⟨rfl, rfl⟩ | ⟨w, e2⟩
    · obtain ⟨h1, h2, h3, h4⟩ := fx f
      refine ⟨s0, e0, h1, ?_, fun _ q => by rw [h4] at q; cases q⟩
      rw [List.getElem?_set_self h3, h2, List.getElem?_eq_getElem h3]
      rfl
    · exact ⟨t, e2, was_refl f, List.getElem?_set_ne w, fun _ _ => put_ne w⟩
theorem set_same {σ : L2.St} {i : Nat} {x : Option V} (h : σ[i]? = some x) : σ.set i x = σ := by
  refine List.ext_getElem? fun j => ?_
  by_cases w : i = j
  · subst w
    rw [List.getElem?_set_self (List.getElem?_eq_some_iff.mp h).1, h]
  · rw [List.getElem?_set_ne w]
/-- the own thing at slot i, given away -/
theorem Rep.give {i : Nat} {s : Sl} {o : O} {d : D} (r : Rep κ H G σ env) (e : env[i]? = some s) (t : s.th = some o) (hm : s.mut = true) (hd : o.d = some d) : ∃ v G', σ[i]? = some (some v) ∧ Rep κ H G' σ (env.set i (.sh d)) ∧ Rp κ G' v d ∧
    Fr H G σ env H G' σ (env.set i (.sh d)) := by
  obtain ⟨v, h1, ro⟩ := (r.slot i s e).th t
  have hi : i < env.length := (List.getElem?_eq_some_iff.mp e).1
  have sg : Same G.g (frzG H G (G.fp i)) := same_frz fun a m => (ro.own m).2
  have rp := ro.frz hd
  have me : ∀ a, a ∈ G.fp i → Own G env i a := fun a m => ⟨s, o, e, t, m⟩
  have re := r.re (s := .sh d) (F := []) (x := some v) hi (frz_sub r.sub fun a o m e => (ro.pl m e).1) sg ⟨rfl, v, rfl, rp⟩ (fun _ _ _ _ _ _ _ h => h) (fun j a w ow => by
    obtain ⟨t', o', e', z', m'⟩ := id ow
    rw [frz_out fun m => w (r.inj i j a t' (me a m) e' m')]
    exact (r.own ow).2) fun a m => by cases m
  have fr := Fr.re (σ := σ) (H := H) (H' := H) (g' := frzG H G (G.fp i)) (s := .sh d) (F := []) (x := some v) (s0 := s) e (fun _ o h _ => ⟨o, h, fun _ => rfl⟩) sg (fun a o' h g n => by
    rw [frz_out fun m => n ⟨i, s, e, hm, m⟩]
    exact g) (fun q => by cases q) fun q => by cases q
  rw [set_same h1] at re fr
  exact ⟨v, _, h1, re, rp, fr⟩
end
section
variable {X : Cx} {κ : Kx} {W : WX} {e : Expr}
theorem v_var {i : Nat} {x : Str} {pos : Pos} (h : PE X (.Name x pos) (tVar i)) : PE X (.Name x pos) (tX κ W (RP κ) (eV i)) := PE.imp h fun σ H Q ⟨G, env, r, q⟩ => by
  unfold eV at q
  cases z : env[i]? with
  | none => rw [z] at q; exact q.elim
  | some s =>
    have rs := r.slot i s z
    rw [z] at q
    have gv : ∀ {o : O} {d : D}, s.th = some o → s.mut = true → o.d = some d → EPost κ W (RP κ) σ H G env (some (.ok d (env.set i (.sh d)))) Q → tVar i σ H Q := fun {o d} t hm hd q => by
      obtain ⟨v, G', g1, g2, g3, g4⟩ := r.give z t hm hd
      exact ⟨v, g1, q _ H _ g2 g3 (Grw.refl _) g4⟩
    cases s with
    | un => exact q.elim
    | sh d =>
      obtain ⟨_, v, h1, h2⟩ := rs
      exact ⟨v, h1, q v H G r h2 (Grw.refl _) Fr.refl⟩
    | ow l => exact gv rfl rfl rfl q
    | lk l => exact q.elim
    | bo l => exact q.elim
    | io o => exact q.elim
    | tr o =>
      dsimp only at q
      cases w : o.d with
      | none => rw [w] at q; exact q.elim
      | some d => rw [w] at q; exact gv rfl rfl w q
theorem v_const {v : V} {d : D} (h : PE X e (tC v)) (r0 : ∀ G, Rp κ G v d) : PE X e (tX κ W (RP κ) (eC d)) := PE.imp h fun σ H Q ⟨G, env, r, q⟩ => q v H G r (r0 G) (Grw.refl _) Fr.refl
theorem v_int {i : Int} {j : Nat} {pos : Pos} : PE X (.Constant (.int i) j pos) (tX κ W (RP κ) (eC (.int i))) := v_const pe_int fun _ => .int i
theorem v_bl {b : Bool} {j : Nat} {pos : Pos} : PE X (.Constant (.bool b) j pos) (tX κ W (RP κ) (eC (.bl b))) := v_const pe_bl fun _ => .bl b
theorem v_non {j : Nat} {pos : Pos} : PE X (.Constant .none j pos) (tX κ W (RP κ) (eC .non)) := v_const pe_non fun _ => .non
theorem v_str {x : Str} {j : Nat} {pos : Pos} {w : List Nat} (h : x = S w) : PE X (.Constant (.str x) j pos) (tX κ W (RP κ) (eC (.str w))) := v_const pe_str fun _ => h ▸ .str w
end
/-! ### operators -/
def fOp {γ : Type} (f : D → D → Option γ) (ma mb : Sm D) : Sm γ := bnd ma fun x => bnd mb fun y => fun e => match f x y with
  | some z => some (.ok z e)
  | none => none
def RBq (κ : Kx) (H G : Hp) (v : V) (d : D) : Prop := Rp κ G v d ∨ ∃ a xs l, d = .lst l ∧ v = .ref a ∧ H a = some (.lst xs) ∧ RpA κ G xs l
section
variable {κ : Kx} {H G H' G' : Hp} {v : V} {d : D}
theorem RBq.mono (h : Grw H H') (g : Same G G') (r : RBq κ H G v d) : RBq κ H' G' v d := by
  rcases r with r | ⟨a, xs, l, h1, h2, h3, h4⟩
  · exact .inl (r.mono g)
  · exact .inr ⟨a, xs, l, h1, h2, h.at h3, h4.mono g⟩
theorem RBq.int {i : Int} (r : RBq κ H G v (.int i)) : v = .int i := by
  rcases r with r | ⟨a, xs, l, h1, _⟩
  · cases r; rfl
  · cases h1
theorem RBq.bl {i : Bool} (r : RBq κ H G v (.bl i)) : v = .bl i := by
  rcases r with r | ⟨a, xs, l, h1, _⟩
  · cases r; rfl
  · cases h1
theorem RBq.non (r : RBq κ H G v .non) : v = .non := by
  rcases r with r | ⟨a, xs, l, h1, _⟩
  · cases r; rfl
  · cases h1
theorem RBq.str {w : List Nat} (r : RBq κ H G v (.str w)) : v = .str (S w) := by
  rcases r with r | ⟨a, xs, l, h1, _⟩
  · cases r; rfl
  · cases h1
theorem RBq.lst {l : List D} (s : Same G H) (r : RBq κ H G v (.lst l)) : ∃ a xs, v = .ref a ∧ H a = some (.lst xs) ∧ RpA κ G xs l := by
  rcases r with r | ⟨a, xs, l, h1, h2, h3, h4⟩
  · cases r with
    | lst h t => exact ⟨_, _, rfl, s _ _ h, t⟩
  · cases h1
    exact ⟨a, xs, h2, h3, h4⟩
theorem RBq.tup {l : List D} (s : Same G H) (r : RBq κ H G v (.tup l)) : ∃ a xs, v = .ref a ∧ H a = some (.tup xs) ∧ RpA κ G xs l := by
  rcases r with r | ⟨a, xs, l, h1, h2, h3, h4⟩
  · cases r with
    | tup h t => exact ⟨_, _, rfl, s _ _ h, t⟩
  · cases h1
theorem RBq.scr {l : List Int} (s : Same G H) (r : RBq κ H G v (.scr l)) : ∃ a, v = .ref a ∧ SqL κ.K H a (l.map V.int) := by
  rcases r with r | ⟨a, xs, l, h1, h2, h3, h4⟩
  · cases r with
    | scr h => exact ⟨_, rfl, same_l s h⟩
  · cases h1
theorem RBq.ob {c : Nat} {l : List D} (s : Same G H) (r : RBq κ H G v (.ob c l)) : ∃ a dx fs, v = .ref a ∧ H a = some (.ins (κ.cl c) dx fs) ∧ fs.map Prod.fst = (κ.fl c).take l.length ∧ RpA κ G (fs.map Prod.snd) l := by
  rcases r with r | ⟨a, xs, l, h1, h2, h3, h4⟩
  · cases r with
    | ob h1 h2 t => exact ⟨_, _, _, rfl, s _ _ h1, h2, t⟩
  · cases h1
end
/-- the end: a value that is no list, nothing made -/
theorem post_sh {κ : Kx} {W : WX} {σ : L2.St} {H : Hp} {G : Gh} {env : En} {d : D} {Q : VK} {v : V} (r : Rep κ H G σ env) (h : Rp κ G v d) (q : EPost κ W (RV κ) σ H G env (some (.ok (.sh d) env)) Q) : Q v H := q v H G r h (Grw.refl _) Fr.refl
theorem post_tt {κ : Kx} {W : WX} {σ : L2.St} {H : Hp} {G : Gh} {env : En} {b : Bool} {Q : Bool → Hp → Prop} (r : Rep κ H G σ env) (q : EPost κ W RT σ H G env (some (.ok b env)) Q) : Q b H := q b H G r rfl (Grw.refl _) Fr.refl
theorem post_ow {κ : Kx} {W : WX} {σ : L2.St} {H : Hp} {G : Gh} {env : En} {l : List D} {xs : List V} {Q : VK} {p : Addr} (r : Rep κ H G σ env) (hp : H p = none) (h : RpA κ G xs l) (q : EPost κ W (RV κ) σ H G env (some (.ok (.ow l) env)) Q) : Q (.ref p) (upd H p (.lst xs)) := by
  obtain ⟨s, v⟩ := new_ow r hp h
  exact q _ _ G s.rep v s.same s.fr
theorem post_tup {κ : Kx} {W : WX} {σ : L2.St} {H : Hp} {G : Gh} {env : En} {l : List D} {xs : List V} {Q : VK} {p : Addr} (r : Rep κ H G σ env) (hp : H p = none) (h : RpA κ G xs l) (q : EPost κ W (RV κ) σ H G env (some (.ok (.sh (.tup l)) env)) Q) : Q (.ref p) (upd H p (.tup xs)) := by
  have s := new_sh (o := .tup xs) r hp
  exact q _ _ _ s.rep (.tup upd_same (h.mono (same_new (Same.none r.sub hp)))) s.same s.fr
/-- an operator's reading serves its function -/
def OpV (κ : Kx) (r : R2) (f : D → D → Option Rs) : Prop := ∀ (W : WX) (σ : L2.St) (x y : V) (dx dy : D) (z : Rs) (H : Hp) (G : Gh) (env : En) (Q : VK), f dx dy = some z → Rep κ H G σ env → RBq κ H G x dx → RBq κ H G y dy → EPost κ W (RV κ) σ H G env (some (.ok z env)) Q → r x y H Q
def OpB (κ : Kx) (r : R2) (f : D → D → Option Bool) : Prop := ∀ (x y : V) (dx dy : D) (z : Bool) (H G : Hp) (Q : VK), f dx dy = some z → Same G H → RBq κ H G x dx → RBq κ H G y dy → Q (.bl z) H → r x y H Q
section
variable {X : Cx} {κ : Kx} {W : WX} {a b c : Expr} {ma mb mc : Sm D} {pos : Pos}
theorem op_tr {γ δ : Type} {R' : Rl γ δ} [RlMono R'] {f : D → D → Option γ} {σ : L2.St} {H : Hp} {P : δ → Hp → Prop} {r : R2} {Q : VK}
    (hs : ∀ x y dx dy z H G env, f dx dy = some z → Rep κ H G σ env → RBq κ H G x dx → RBq κ H G y dy → EPost κ W R' σ H G env (some (.ok z env)) P → r x y H Q)
    (h : tX κ W R' (fOp f ma mb) σ H P) : tOp r (tX κ W (RB κ) ma) (tX κ W (RB κ) mb) σ H Q := by
  obtain ⟨G, env, rp, q⟩ := h
  refine bind_post rp q fun dx e1 x H1 G1 _ rp1 rx s1 f1 q1 => ?_
  refine bind_post rp1 q1 fun dy e2 y H2 G2 _ rp2 ry s2 f2 q2 => ?_
  cases z : f dx dy with
  | none => rw [z] at q2; exact q2.elim
  | some w => rw [z] at q2; exact hs x y dx dy w H2 G2 e2 z rp2 (RBq.mono s2 f2.gk rx) ry q2
theorem v_op {op : Operator} {r : R2} {f : D → D → Option Rs} (ho : OpR X (binaryOp op) r) (hs : OpV κ r f) (ha : PE X a (tX κ W (RB κ) ma)) (hb : PE X b (tX κ W (RB κ) mb)) : PE X (.BinOp a op b pos) (tX κ W (RV κ) (fOp f ma mb)) :=
  PE.imp (pe_op ho ha hb) fun σ H Q h => op_tr (fun x y dx dy z H G env e r rx ry q => hs W σ x y dx dy z H G env Q e r rx ry q) h
/-- a comparison as a value -/
def vB (f : D → D → Option Bool) : D → D → Option D := fun x y => match f x y with
  | some b => some (.bl b)
  | none => none
theorem v_cmp {op : CmpOp} {r : R2} {f : D → D → Option Bool} (ho : OpR X (compareOp op) r) (hs : OpB κ r f) (ha : PE X a (tX κ W (RB κ) ma)) (hb : PE X b (tX κ W (RB κ) mb)) (hm : behindInMarks op b = false) : PE X (.Compare a [op] [b] pos) (tX κ W (RP κ) (fOp (vB f) ma mb)) :=
  PE.imp (pe_cmpR ho ha hb hm) fun σ H Q h => op_tr (fun x y dx dy z H G env e r rx ry q => by
    unfold vB at e
    cases w : f dx dy with
    | none => rw [w] at e; cases e
    | some b =>
      rw [w] at e
      cases e
      exact hs x y dx dy b H G Q w r.sub rx ry (q (.bl b) H G r (.bl b) (Grw.refl _) Fr.refl)) h
/-- .. as a test -/
theorem t_cmp {op : CmpOp} {r : R2} {f : D → D → Option Bool} (ho : OpR X (compareOp op) r) (hs : OpB κ r f) (ha : PE X a (tX κ W (RB κ) ma)) (hb : PE X b (tX κ W (RB κ) mb)) (hm : behindInMarks op b = false) : PT X (.Compare a [op] [b] pos) (tX κ W RT (fOp f ma mb)) :=
  PT.imp (pt_cmpR ho ha hb hm) fun σ H Q h => op_tr (Q := fun x H' => ∃ k, x = .bl k ∧ Q k H') (fun x y dx dy z H G env e r rx ry q => hs x y dx dy z H G _ e r.sub rx ry ⟨z, rfl, post_tt r q⟩) h
/-- a < b < c -/
def fCh (f g : D → D → Option Bool) (ma mb mc : Sm D) : Sm Bool := bnd ma fun x => bnd mb fun y => fun e => match f x y with
  | none => none
  | some false => some (.ok false e)
  | some true => bnd mc (fun z => fun e => match g y z with
    | some b => some (.ok b e)
    | none => none) e
end

/-! ### the operators' functions -/
abbrev szl : Nat := 1000000
theorem szl_le {n : Nat} (h : n ≤ szl) : n ≤ sizeLine := Nat.le_trans h (by decide)
theorem szl_lt {n : Nat} (h : n ≤ szl) : n < sizeLine := Nat.lt_of_le_of_lt h (by decide)
theorem S_add (a b : List Nat) : S a ++ S b = S (a ++ b) := congrArg Str.mk (show a.toArray ++ b.toArray = (a ++ b).toArray by simp)
def opAdd : D → D → Option Rs
  | .int i, .int j => some (.sh (.int (i + j)))
  | .str a, .str b => if a.length + b.length ≤ szl then some (.sh (.str (a ++ b))) else none
  | .lst a, .lst b => if a.length + b.length ≤ szl then some (.ow (a ++ b)) else none
  | _, _ => none
def rAddA : R2 := fun x y H Q => rI0 (fun i j => .int (i + j)) x y H Q ∨ (∃ i j, x = .str i ∧ y = .str j ∧ i.length + j.length ≤ sizeLine ∧ Q (.str (i ++ j)) H) ∨ rCat x y H Q
theorem o_add {X : Cx} : OpR X (binaryOp .Add) rAddA := OpR.or op_add (OpR.or op_add_str op_cat)
theorem s_add {κ : Kx} : OpV κ rAddA opAdd := fun W σ x y dx dy z H G env Q e r rx ry q => by
  cases dx <;> cases dy <;> try (cases e; done)
  · cases e
    exact .inl ⟨_, _, rx.int, ry.int, post_sh r (.int _) q⟩
  · rename_i a b
    dsimp only [opAdd] at e
    by_cases h : a.length + b.length ≤ szl
    · rw [if_pos h] at e
      cases e
      refine .inr (.inl ⟨_, _, rx.str, ry.str, by rw [S_len, S_len]; exact szl_le h, ?_⟩)
      rw [S_add]
      exact post_sh r (.str _) q
    · rw [if_neg h] at e; cases e
  · rename_i a b
    dsimp only [opAdd] at e
    by_cases h : a.length + b.length ≤ szl
    · rw [if_pos h] at e
      cases e
      obtain ⟨p, xs, rfl, h1, h2⟩ := rx.lst r.sub
      obtain ⟨p', ys, rfl, h3, h4⟩ := ry.lst r.sub
      exact .inr (.inr ⟨_, _, _, _, rfl, rfl, h1, h3, by rw [h2.length, h4.length]; exact szl_le h, fun p hp => post_ow r hp (h2.append h4) q⟩)
    · rw [if_neg h] at e; cases e
def opSub : D → D → Option Rs
  | .int i, .int j => some (.sh (.int (i - j)))
  | _, _ => none
theorem s_sub {κ : Kx} : OpV κ (rI0 fun i j => .int (i - j)) opSub := fun W σ x y dx dy z H G env Q e r rx ry q => by
  cases dx <;> cases dy <;> try (cases e; done)
  cases e
  exact ⟨_, _, rx.int, ry.int, post_sh r (.int _) q⟩
def opMod : D → D → Option Rs
  | .int i, .int j => if 0 < j then some (.sh (.int (i % j))) else none
  | _, _ => none
theorem s_mod {κ : Kx} : OpV κ (rI (fun _ j => 0 < j) fun i j => .int (i % j)) opMod := fun W σ x y dx dy z H G env Q e r rx ry q => by
  cases dx <;> cases dy <;> try (cases e; done)
  rename_i a b
  dsimp only [opMod] at e
  by_cases h : 0 < b
  · rw [if_pos h] at e
    cases e
    exact ⟨_, _, rx.int, ry.int, h, post_sh r (.int _) q⟩
  · rw [if_neg h] at e; cases e
def opDiv : D → D → Option Rs
  | .int i, .int j => if 0 < j ∧ j < 1000000000000 then some (.sh (.int (i / j))) else none
  | _, _ => none
theorem s_div {κ : Kx} : OpV κ (rI CDivW fun i j => .int (i / j)) opDiv := fun W σ x y dx dy z H G env Q e r rx ry q => by
  cases dx <;> cases dy <;> try (cases e; done)
  rename_i a b
  dsimp only [opDiv] at e
  by_cases h : 0 < b ∧ b < 1000000000000
  · rw [if_pos h] at e
    cases e
    exact ⟨_, _, rx.int, ry.int, wide_div (b := 40) h.1 (by omega) (by decide) (by decide), post_sh r (.int _) q⟩
  · rw [if_neg h] at e; cases e
def opMul : D → D → Option Rs
  | .int i, .int j => if Builtin.Int.intBits i + Builtin.Int.intBits j ≤ 134217728 then some (.sh (.int (i * j))) else none
  | .str a, .int j => if 0 ≤ j ∧ j ≤ 100000 ∧ a.length * j.toNat ≤ szl then some (.sh (.str (List.replicate j.toNat a).flatten)) else none
  | .lst a, .int j => if 0 ≤ j ∧ j ≤ 100000 ∧ a.length * j.toNat ≤ szl then some (.ow (List.replicate j.toNat a).flatten) else none
  | _, _ => none
def rMulS : R2 := fun x y H Q => ∃ (a : List Nat) (j : Int), x = .str (S a) ∧ y = .int j ∧ 0 ≤ j ∧ j ≤ 100000 ∧ a.length * j.toNat ≤ szl ∧ Q (.str (S (List.replicate j.toNat a).flatten)) H
theorem fold_rep (a : List Nat) : ∀ (n : Nat) (b : Array Nat), (List.replicate n a.toArray).foldl (· ++ ·) b = b ++ (List.replicate n a).flatten.toArray
  | 0, b => by simp
  | n + 1, b => by
    rw [List.replicate_succ, List.foldl_cons, fold_rep a n, List.replicate_succ, List.flatten_cons]
    simp
theorem mul_S (a : List Nat) (j : Int) (h : 0 ≤ j) : Txt.mul (S a) j = S (List.replicate j.toNat a).flatten := by
  unfold Txt.mul
  by_cases h1 : j < 1
  · rw [if_pos h1]
    have : j.toNat = 0 := by omega
    rw [this]
    rfl
  · rw [if_neg h1]
    by_cases h2 : (j == 1 || (S a).length == 0) = true
    · rw [if_pos h2]
      rw [Bool.or_eq_true] at h2
      rcases h2 with h2 | h2
      · have : j = 1 := by simpa using h2
        subst this
        show S a = S _
        rw [show (1 : Int).toNat = 1 from rfl, List.replicate_one]
        simp
      · rw [S_len] at h2
        have h3 : a = [] := by simpa using h2
        subst h3
        have : (List.replicate j.toNat ([] : List Nat)).flatten = [] := by simp
        rw [this]
    · rw [if_neg h2]
      show Str.mk _ = Str.mk _
      congr 1
      rw [show (S a).cps = a.toArray from rfl, fold_rep]
      simp
theorem o_mulS {X : Cx} : OpR X (binaryOp .Mult) rMulS := by
  intro pins s σ H x y v u Q I rx ry h
  obtain ⟨a, j, rfl, rfl, h1, h2, h3, q⟩ := h
  obtain ⟨t, rfl⟩ := rx
  obtain ⟨t', rfl⟩ := ry
  have hsz : sizeLine = 16777216 := sizeLine_eq
  refine SB.mul ⟨?_, fun h4 h5 => ?_, fun h4 h5 => ?_⟩ fun t' k => ?_
  · rw [Bool.or_eq_false_iff]
    exact ⟨decide_eq_false (by omega), decide_eq_false (by omega)⟩
  · rw [S_len]
    have h6 : (a.length : Int) * j ≤ 1000000 := by
      have e : ((a.length * j.toNat : Nat) : Int) = (a.length : Int) * j := by
        rw [Int.natCast_mul, Int.toNat_of_nonneg h1]
      rw [← e]
      have h3' : a.length * j.toNat ≤ 1000000 := h3
      exact Int.ofNat_le.mpr h3'
    have h7 : (a.length : Int) ≤ (a.length : Int) * j := by
      have : (a.length : Int) * 1 ≤ (a.length : Int) * j := Int.mul_le_mul_of_nonneg_left (by omega) (by omega)
      omega
    have h8 : (92233720368547 : Int) ≤ (2 ^ 63 - 1) / j := by
      rw [Int.le_ediv_iff_mul_le (by omega)]
      have : (92233720368547 : Int) * j ≤ 92233720368547 * 100000 := Int.mul_le_mul_of_nonneg_left h2 (by decide)
      omega
    omega
  · rw [S_len]
    unfold Builtin.Str.tooLong
    have : ¬ (a.length * j.toNat > sizeLine) := by
      have : a.length * j.toNat ≤ 1000000 := h3
      omega
    simpa using this
  · rw [mul_S a j h1]
    exact ⟨.str _, H, I.tok _, ⟨_, rfl⟩, q⟩
def rMulA : R2 := fun x y H Q => rI CMulX (fun i j => .int (i * j)) x y H Q ∨ rMulS x y H Q ∨ rRep x y H Q
theorem o_mul {X : Cx} : OpR X (binaryOp .Mult) rMulA := OpR.or op_mulX (OpR.or o_mulS op_rep)
theorem RpA.rep {κ : Kx} {G : Hp} {xs : List V} {l : List D} (h : RpA κ G xs l) : ∀ n : Nat, RpA κ G (List.replicate n xs).flatten (List.replicate n l).flatten
  | 0 => .nil
  | n + 1 => by
    rw [List.replicate_succ, List.replicate_succ, List.flatten_cons, List.flatten_cons]
    exact h.append (RpA.rep h n)
theorem s_mul {κ : Kx} : OpV κ rMulA opMul := fun W σ x y dx dy z H G env Q e r rx ry q => by
  cases dx <;> cases dy <;> try (cases e; done)
  · rename_i i j
    dsimp only [opMul] at e
    by_cases h : Builtin.Int.intBits i + Builtin.Int.intBits j ≤ 134217728
    · rw [if_pos h] at e
      cases e
      exact .inl ⟨_, _, rx.int, ry.int, by show ((Builtin.Int.intBits i : Nat) : Int) + ((Builtin.Int.intBits j : Nat) : Int) ≤ 134217728; omega, post_sh r (.int _) q⟩
    · rw [if_neg h] at e; cases e
  · rename_i a j
    dsimp only [opMul] at e
    by_cases h : 0 ≤ j ∧ j ≤ 100000 ∧ a.length * j.toNat ≤ szl
    · rw [if_pos h] at e
      cases e
      exact .inr (.inl ⟨_, _, rx.str, ry.int, h.1, h.2.1, h.2.2, post_sh r (.str _) q⟩)
    · rw [if_neg h] at e; cases e
  · rename_i a j
    dsimp only [opMul] at e
    by_cases h : 0 ≤ j ∧ j ≤ 100000 ∧ a.length * j.toNat ≤ szl
    · rw [if_pos h] at e
      cases e
      obtain ⟨p, xs, rfl, h1, h2⟩ := rx.lst r.sub
      exact .inr (.inr ⟨_, _, _, rfl, ry.int, h1, by omega, by omega, by rw [h2.length]; exact szl_le h.2.2, fun p hp => post_ow r hp (h2.rep _) q⟩)
    · rw [if_neg h] at e; cases e
def opPow : D → D → Option Rs
  | .int i, .int j => if 0 ≤ j ∧ j ≤ 1000 ∧ 0 ≤ i ∧ i ≤ 1000000 then some (.sh (.int (i ^ j.toNat))) else none
  | _, _ => none
theorem s_pow {κ : Kx} : OpV κ (rI CPow fun i j => .int (i ^ j.toNat)) opPow := fun W σ x y dx dy z H G env Q e r rx ry q => by
  cases dx <;> cases dy <;> try (cases e; done)
  rename_i a b
  dsimp only [opPow] at e
  by_cases h : 0 ≤ b ∧ b ≤ 1000 ∧ 0 ≤ a ∧ a ≤ 1000000
  · rw [if_pos h] at e
    cases e
    exact ⟨_, _, rx.int, ry.int, ⟨h.1, by omega, by omega⟩, post_sh r (.int _) q⟩
  · rw [if_neg h] at e; cases e
/-! ### comparisons -/
mutual
def D.toP : D → PyData
  | .non => .none
  | .bl b => .bool b
  | .int i => .int i
  | .str w => .str (S w)
  | .lst l => .list (toPA l)
  | .tup l => .tuple (toPA l)
  | .ob _ _ => .none
  | .scr _ => .none
  | .xn _ _ => .none
def toPA : List D → List PyData
  | [] => []
  | d :: ds => d.toP :: toPA ds
end
mutual
def D.pl : D → Bool
  | .non => true
  | .bl _ => true
  | .int _ => true
  | .str w => w.all fun c => c < 0x110000
  | .lst l => plA l
  | .tup l => plA l
  | .ob _ _ => false
  | .scr _ => false
  | .xn _ _ => false
def plA : List D → Bool
  | [] => true
  | d :: ds => d.pl && plA ds
end
mutual
theorem pl_lay : ∀ d : D, d.pl = true → d.toP.canLay0 = true
  | .non, _ => by simp only [D.toP, PyData.canLay0]
  | .bl _, _ => by simp only [D.toP, PyData.canLay0]
  | .int _, _ => by simp only [D.toP, PyData.canLay0]
  | .str w, h => by
    simp only [D.toP, PyData.canLay0, PyData.strOk]
    simpa [D.pl, S] using h
  | .lst l, h => by
    simp only [D.toP, PyData.canLay0]
    exact plA_lay l (by simpa [D.pl] using h)
  | .tup l, h => by
    simp only [D.toP, PyData.canLay0]
    exact plA_lay l (by simpa [D.pl] using h)
  | .ob _ _, h => by simp [D.pl] at h
  | .scr _, h => by simp [D.pl] at h
  | .xn _ _, h => by simp [D.pl] at h
theorem plA_lay : ∀ l : List D, plA l = true → PyData.canLayAll0 (toPA l) = true
  | [], _ => by simp only [toPA, PyData.canLayAll0]
  | d :: ds, h => by
    have h' : d.pl = true ∧ plA ds = true := by simpa [plA] using h
    simp only [toPA, PyData.canLayAll0, pl_lay d h'.1, plA_lay ds h'.2, Bool.and_self]
end
section
variable {κ : Kx} {H G : Hp}
mutual
theorem Rp.dp (s : Same G H) : ∀ {v : V} {d : D}, Rp κ G v d → d.pl = true → Dp κ.K H v d.toP
  | _, _, .non, _ => .non
  | _, _, .bl b, _ => .bl b
  | _, _, .int i, _ => .int i
  | _, _, .str w, _ => .str _
  | _, _, .lst h t, p => .lst (SqL.of (s _ _ h)) (RpA.dp s t (by simpa [D.pl] using p))
  | _, _, .tup h t, p => .tup (SqT.of (s _ _ h)) (RpA.dp s t (by simpa [D.pl] using p))
  | _, _, .ob _ _ _, p => by simp [D.pl] at p
  | _, _, .scr _, p => by simp [D.pl] at p
  | _, _, .xn _, p => by simp [D.pl] at p
theorem RpA.dp (s : Same G H) : ∀ {vs : List V} {ds : List D}, RpA κ G vs ds → plA ds = true → DpAll κ.K H vs (toPA ds)
  | _, _, .nil, _ => .nil
  | _, _, .cons h t, p => by
    have p' := p
    simp only [plA, Bool.and_eq_true] at p'
    exact .cons (Rp.dp s h p'.1) (RpA.dp s t p'.2)
end
theorem RBq.dp {v : V} {d : D} (s : Same G H) (r : RBq κ H G v d) (p : d.pl = true) : Dp κ.K H v d.toP := by
  rcases r with r | ⟨a, xs, l, rfl, rfl, h3, h4⟩
  · exact r.dp s p
  · exact .lst (SqL.of h3) (h4.dp s (by simpa [D.pl] using p))
end
def D.okE (d : D) : Bool := d.pl && decide (d.toP.depth ≤ 64)
theorem okE_shaped {d : D} (h : d.okE = true) : SeqAt.shaped d.toP = true := by
  unfold D.okE at h
  rw [Bool.and_eq_true] at h
  unfold SeqAt.shaped
  rw [pl_lay d h.1, h.2]
  rfl
theorem okE_pl {d : D} (h : d.okE = true) : d.pl = true := by
  unfold D.okE at h
  rw [Bool.and_eq_true] at h
  exact h.1
def cEq : D → D → Option Bool
  | .int i, .int j => some (decide (i = j))
  | .str a, .str b => some (decide (a = b))
  | .bl a, .bl b => some (decide (a = b))
  | x, y => if x.okE = true ∧ y.okE = true then some (PyData.eqv x.toP y.toP) else none
def cNe : D → D → Option Bool := fun x y => match cEq x y with
  | some b => some (!b)
  | none => none
def rEqA (κ : Kx) : R2 := fun x y H Q => rEq x y H Q ∨ rEqD κ.K x y H Q
def rNeA (κ : Kx) : R2 := fun x y H Q => rNe x y H Q ∨ rNeD κ.K x y H Q
theorem o_eq {X : Cx} {κ : Kx} (hK : X.K = κ.K) (hu : X.A.units + 64 < cLine) : OpR X (compareOp .Eq) (rEqA κ) := by
  unfold rEqA
  rw [← hK]
  exact OpR.or op_eq (op_eqD hu)
theorem o_ne {X : Cx} {κ : Kx} (hK : X.K = κ.K) (hu : X.A.units + 64 < cLine) : OpR X (compareOp .NotEq) (rNeA κ) := by
  unfold rNeA
  rw [← hK]
  exact OpR.or op_ne (op_neD hu)
theorem dec_S {a b : List Nat} : decide (V.str (S a) = V.str (S b)) = decide (a = b) := by
  by_cases h : a = b
  · subst h; simp
  · rw [decide_eq_false h, decide_eq_false]
    intro z
    injection z with z
    exact h (S_inj z)
theorem cEq_cases (x y : D) : (∃ i j, x = .int i ∧ y = .int j) ∨ (∃ i j, x = .str i ∧ y = .str j) ∨ (∃ i j, x = .bl i ∧ y = .bl j) ∨ cEq x y = if x.okE = true ∧ y.okE = true then some (PyData.eqv x.toP y.toP) else none := by
  cases x <;> cases y <;> first
    | exact .inl ⟨_, _, rfl, rfl⟩
    | exact .inr (.inl ⟨_, _, rfl, rfl⟩)
    | exact .inr (.inr (.inl ⟨_, _, rfl, rfl⟩))
    | exact .inr (.inr (.inr rfl))
theorem eqA {κ : Kx} {x y : V} {dx dy : D} {z : Bool} {H G : Hp} {Q : VK} (e : cEq dx dy = some z) (s : Same G H) (rx : RBq κ H G x dx) (ry : RBq κ H G y dy) :
    (Q (.bl z) H → rEqA κ x y H Q) ∧ (Q (.bl (!z)) H → rNeA κ x y H Q) := by
  rcases cEq_cases dx dy with ⟨i, j, rfl, rfl⟩ | ⟨i, j, rfl, rfl⟩ | ⟨i, j, rfl, rfl⟩ | h
  · cases e
    rw [rx.int, ry.int]
    refine ⟨fun q => .inl ⟨rfl, ?_⟩, fun q => .inl ⟨rfl, ?_⟩⟩
    · rw [show decide (V.int i = V.int j) = decide (i = j) by simp]; exact q
    · rw [show decide (V.int i = V.int j) = decide (i = j) by simp]; exact q
  · cases e
    rw [rx.str, ry.str]
    refine ⟨fun q => .inl ⟨rfl, ?_⟩, fun q => .inl ⟨rfl, ?_⟩⟩
    · rw [dec_S]; exact q
    · rw [dec_S]; exact q
  · cases e
    rw [rx.bl, ry.bl]
    refine ⟨fun q => .inl ⟨rfl, ?_⟩, fun q => .inl ⟨rfl, ?_⟩⟩
    · rw [show decide (V.bl i = V.bl j) = decide (i = j) by simp]; exact q
    · rw [show decide (V.bl i = V.bl j) = decide (i = j) by simp]; exact q
  · rw [h] at e
    by_cases o : dx.okE = true ∧ dy.okE = true
    · rw [if_pos o] at e
      cases e
      exact ⟨fun q => .inr ⟨_, _, rx.dp s (okE_pl o.1), ry.dp s (okE_pl o.2), okE_shaped o.1, okE_shaped o.2, q⟩, fun q => .inr ⟨_, _, rx.dp s (okE_pl o.1), ry.dp s (okE_pl o.2), okE_shaped o.1, okE_shaped o.2, q⟩⟩
    · rw [if_neg o] at e; cases e
theorem s_eq {κ : Kx} : OpB κ (rEqA κ) cEq := fun x y dx dy z H G Q e s rx ry q => (eqA e s rx ry).1 q
theorem s_ne {κ : Kx} : OpB κ (rNeA κ) cNe := fun x y dx dy z H G Q e s rx ry q => by
  unfold cNe at e
  cases h : cEq dx dy with
  | none => rw [h] at e; cases e
  | some b =>
    rw [h] at e
    cases e
    exact (eqA h s rx ry).2 q
/-- < and its like: two ints, or two texts -/
def cmpB (f : Int → Int → Bool) (g : List Nat → List Nat → Bool) : D → D → Option Bool
  | .int i, .int j => some (f i j)
  | .str a, .str b => some (g a b)
  | _, _ => none
abbrev cLt := cmpB (fun i j => decide (i < j)) (fun a b => decide (a < b))
abbrev cLe := cmpB (fun i j => decide (i ≤ j)) (fun a b => !decide (b < a))
abbrev cGt := cmpB (fun i j => decide (j < i)) (fun a b => decide (b < a))
abbrev cGe := cmpB (fun i j => decide (j ≤ i)) (fun a b => !decide (a < b))
def rCm (f : Int → Int → Bool) (g : List Nat → List Nat → Bool) : R2 := fun x y H Q => rI0 (fun i j => .bl (f i j)) x y H Q ∨ ∃ i j : Str, x = .str i ∧ y = .str j ∧ Q (.bl (g i.cps.toList j.cps.toList)) H
theorem s_cm {κ : Kx} {f : Int → Int → Bool} {g : List Nat → List Nat → Bool} : OpB κ (rCm f g) (cmpB f g) := fun x y dx dy z H G Q e s rx ry q => by
  cases dx <;> cases dy <;> try (cases e; done)
  · cases e
    exact .inl ⟨_, _, rx.int, ry.int, q⟩
  · cases e
    exact .inr ⟨_, _, rx.str, ry.str, q⟩
section
variable {X : Cx}
theorem o_lt : OpR X (compareOp .Lt) (rCm (fun i j => decide (i < j)) (fun a b => decide (a < b))) := OpR.or op_lt op_lt_str
theorem o_le : OpR X (compareOp .LtE) (rCm (fun i j => decide (i ≤ j)) (fun a b => !decide (b < a))) := OpR.or op_le op_le_str
theorem o_gt : OpR X (compareOp .Gt) (rCm (fun i j => decide (j < i)) (fun a b => decide (b < a))) := OpR.or op_gt op_gt_str
theorem o_ge : OpR X (compareOp .GtE) (rCm (fun i j => decide (j ≤ i)) (fun a b => !decide (a < b))) := OpR.or op_ge op_ge_str
end
/-- is None -/
def cIsN : D → D → Option Bool := fun x y => match y with
  | .non => match x with
    | .non => some true
    | _ => some false
  | _ => none
def cNotN : D → D → Option Bool := fun x y => match cIsN x y with
  | some b => some (!b)
  | none => none
theorem RBq.isN {κ : Kx} {H G : Hp} {v : V} {d : D} (r : RBq κ H G v d) : decide (v = .non) = (match d with | .non => true | _ => false) := by
  rcases r with r | ⟨a, xs, l, rfl, rfl, _⟩
  · cases r <;> simp
  · simp
theorem s_isN {κ : Kx} : OpB κ (fun x y H Q => y = .non ∧ Q (.bl (decide (x = .non))) H) cIsN := fun x y dx dy z H G Q e s rx ry q => by
  cases dy <;> try (cases e; done)
  refine ⟨ry.non, ?_⟩
  rw [rx.isN]
  cases dx <;> (cases e; exact q)
theorem s_notN {κ : Kx} : OpB κ (fun x y H Q => y = .non ∧ Q (.bl (!decide (x = .non))) H) cNotN := fun x y dx dy z H G Q e s rx ry q => by
  cases dy <;> try (cases e; done)
  refine ⟨ry.non, ?_⟩
  rw [rx.isN]
  cases dx <;> (cases e; exact q)
/-- in: a sign in a text, a flat value in a list or a tuple -/
def D.fl : D → Bool
  | .non => true
  | .bl _ => true
  | .int _ => true
  | .str _ => true
  | _ => false
def D.feq : D → D → Bool
  | .non, .non => true
  | .bl a, .bl b => a == b
  | .bl a, .int b => (if a then 1 else 0) == b
  | .int a, .bl b => a == (if b then 1 else 0)
  | .int a, .int b => a == b
  | .str a, .str b => a == b
  | _, _ => false
def cIn : D → D → Option Bool
  | .str [c], .str w => some (decide (c ∈ w))
  | x, .lst l => if x.fl = true ∧ l.all D.fl = true then some (l.any fun y => y.feq x) else none
  | x, .tup l => if x.fl = true ∧ l.all D.fl = true then some (l.any fun y => y.feq x) else none
  | _, _ => none
def cNin : D → D → Option Bool := fun x y => match cIn x y with
  | some b => some (!b)
  | none => none
theorem Rp.flat {κ : Kx} {G : Hp} {v : V} {d : D} (r : Rp κ G v d) : flatV v = d.fl := by
  cases r <;> rfl
theorem Rp.feq {κ : Kx} {G : Hp} {v u : V} {d e : D} (r : Rp κ G v d) (q : Rp κ G u e) : eqV v u = d.feq e := by
  cases r <;> cases q <;> first
    | rfl
    | (rename_i a b
       show (S a == S b) = (a == b)
       rw [Bool.eq_iff_iff]
       simp only [beq_iff_eq]
       exact ⟨S_inj, fun z => by rw [z]⟩)
theorem RpA.fl {κ : Kx} {G : Hp} : ∀ {vs : List V} {ds : List D}, RpA κ G vs ds → vs.all flatV = ds.all D.fl
  | _, _, .nil => rfl
  | _, _, .cons r t => by rw [List.all_cons, List.all_cons, r.flat, RpA.fl t]
theorem RpA.any {κ : Kx} {G : Hp} {x : V} {dx : D} (rx : Rp κ G x dx) : ∀ {vs : List V} {ds : List D}, RpA κ G vs ds → inV x vs = ds.any fun y => y.feq dx
  | _, _, .nil => rfl
  | _, _, .cons r t => by
    have ih := RpA.any rx t
    unfold inV at ih ⊢
    rw [List.any_cons, List.any_cons, r.feq rx, ih]
def rInA (κ : Kx) (neg : Bool) : R2 := fun x y H Q => (∃ (c : Nat) (z : Str), x = .str ⟨#[c]⟩ ∧ y = .str z ∧ Q (.bl (if neg then !decide (c ∈ z.cps.toList) else decide (c ∈ z.cps.toList))) H) ∨ rIn κ.K neg x y H Q
theorem o_in {X : Cx} {κ : Kx} (hK : X.K = κ.K) : OpR X (compareOp .In) (rInA κ false) := by
  unfold rInA
  rw [← hK]
  exact OpR.or op_in_sign op_in_seq
theorem o_nin {X : Cx} {κ : Kx} (hK : X.K = κ.K) : OpR X (compareOp .NotIn) (rInA κ true) := by
  unfold rInA
  rw [← hK]
  exact OpR.or op_notIn_sign op_notIn_seq
theorem RBq.rp {κ : Kx} {H G : Hp} {v : V} {d : D} (r : RBq κ H G v d) (f : d.fl = true) : Rp κ G v d := by
  rcases r with r | ⟨a, xs, l, rfl, rfl, _⟩
  · exact r
  · cases f
theorem inA {κ : Kx} {neg : Bool} {x y : V} {dx dy : D} {z : Bool} {H G : Hp} {Q : VK} (e : cIn dx dy = some z) (s : Same G H) (rx : RBq κ H G x dx) (ry : RBq κ H G y dy) (q : Q (.bl (if neg then !z else z)) H) : rInA κ neg x y H Q := by
  cases dy with
  | str w =>
    cases dx with
    | str a =>
      cases a with
      | nil => cases e
      | cons c r =>
        cases r with
        | nil =>
          cases e
          exact .inl ⟨c, S w, rx.str, ry.str, q⟩
        | cons => cases e
    | _ => cases e
  | lst l =>
    have e' : (if dx.fl = true ∧ l.all D.fl = true then some (l.any fun y => y.feq dx) else none) = some z := by
      cases dx with
      | str a => cases a with
        | nil => exact e
        | cons c r => cases r <;> exact e
      | _ => exact e
    by_cases h : dx.fl = true ∧ l.all D.fl = true
    · rw [if_pos h] at e'
      cases e'
      obtain ⟨a, xs, rfl, h1, h2⟩ := ry.lst s
      have rx' := rx.rp h.1
      refine .inr ⟨a, xs, rfl, .inl (SqL.of h1), by rw [rx'.flat]; exact h.1, by rw [h2.fl]; exact h.2, ?_⟩
      rw [h2.any rx']
      exact q
    · rw [if_neg h] at e'; cases e'
  | tup l =>
    have e' : (if dx.fl = true ∧ l.all D.fl = true then some (l.any fun y => y.feq dx) else none) = some z := by
      cases dx with
      | str a => cases a with
        | nil => exact e
        | cons c r => cases r <;> exact e
      | _ => exact e
    by_cases h : dx.fl = true ∧ l.all D.fl = true
    · rw [if_pos h] at e'
      cases e'
      obtain ⟨a, xs, rfl, h1, h2⟩ := ry.tup s
      have rx' := rx.rp h.1
      refine .inr ⟨a, xs, rfl, .inr (SqT.of h1), by rw [rx'.flat]; exact h.1, by rw [h2.fl]; exact h.2, ?_⟩
      rw [h2.any rx']
      exact q
    · rw [if_neg h] at e'; cases e'
  | _ =>
    cases dx with
    | str a => cases a with
      | nil => cases e
      | cons c r => cases r <;> cases e
    | _ => cases e
theorem s_in {κ : Kx} : OpB κ (rInA κ false) cIn := fun x y dx dy z H G Q e s rx ry q => inA e s rx ry (by simpa using q)
theorem s_nin {κ : Kx} : OpB κ (rInA κ true) cNin := fun x y dx dy z H G Q e s rx ry q => by
  unfold cNin at e
  cases h : cIn dx dy with
  | none => rw [h] at e; cases e
  | some b =>
    rw [h] at e
    cases e
    exact inA h s rx ry (by simpa using q)

/-! ### places, slices, lengths, displays -/
theorem atI_rp {κ : Kx} {G : Hp} {xs : List V} {l : List D} {i : Int} {d : D} (h : RpA κ G xs l) (e : atI l i = some d) : ∃ v, atI xs i = some v ∧ Rp κ G v d := by
  unfold atI at e ⊢
  rw [h.length]
  cases z : ixN l.length i with
  | none => rw [z] at e; cases e
  | some j =>
    rw [z] at e
    exact h.getD e
def opIx : D → D → Option D
  | .lst l, .int i => atI l i
  | .tup l, .int i => atI l i
  | .scr l, .int i => match atI l i with
    | some n => some (.int n)
    | none => none
  | .str w, .int i => if w.length ≤ szl then (match atI w i with
    | some c => some (.str [c])
    | none => none) else none
  | _, _ => none
theorem atI_map {α β : Type} (f : α → β) (l : List α) (i : Int) : atI (l.map f) i = (atI l i).map f := by
  unfold atI
  rw [List.length_map]
  cases ixN l.length i with
  | none => rfl
  | some j => simp
section
variable {X : Cx} {κ : Kx} {W : WX} {a b c : Expr} {ma mb mc : Sm D} {pos p2 : Pos}
theorem v_ix (hK : X.K = κ.K) (ha : PE X a (tX κ W (RB κ) ma)) (hb : PE X b (tX κ W (RB κ) mb)) (hs : PlainIx b) : PE X (.Subscript a b pos) (tX κ W (RP κ) (fOp opIx ma mb)) :=
  PE.imp (pe_ix (r := rIx κ.K) (by rw [← hK]; exact ix_seq) ha hb hs) fun σ H Q h => op_tr (fun x y dx dy z H G env e r rx ry q => by
    cases dx with
    | lst l =>
      cases dy <;> try (cases e; done)
      obtain ⟨p, xs, rfl, h1, h2⟩ := rx.lst r.sub
      obtain ⟨v, h3, h4⟩ := atI_rp h2 e
      exact .inl ⟨_, _, _, _, rfl, ry.int, SqL.of h1, h3, q v H G r h4 (Grw.refl _) Fr.refl⟩
    | tup l =>
      cases dy <;> try (cases e; done)
      obtain ⟨p, xs, rfl, h1, h2⟩ := rx.tup r.sub
      obtain ⟨v, h3, h4⟩ := atI_rp h2 e
      exact .inr (.inl ⟨_, _, _, _, rfl, ry.int, SqT.of h1, h3, q v H G r h4 (Grw.refl _) Fr.refl⟩)
    | scr l =>
      cases dy <;> try (cases e; done)
      rename_i i
      obtain ⟨p, rfl, h1⟩ := rx.scr r.sub
      dsimp only [opIx] at e
      cases w : atI l i with
      | none => rw [w] at e; cases e
      | some n =>
        rw [w] at e
        cases e
        exact .inl ⟨_, _, _, _, rfl, ry.int, h1, by rw [atI_map, w]; rfl, q _ H G r (.int n) (Grw.refl _) Fr.refl⟩
    | str t =>
      cases dy <;> try (cases e; done)
      rename_i i
      dsimp only [opIx] at e
      by_cases hl : t.length ≤ szl
      · rw [if_pos hl] at e
        cases w : atI t i with
        | none => rw [w] at e; cases e
        | some c =>
          rw [w] at e
          cases e
          exact .inr (.inr ⟨S t, i, c, rx.str, ry.int, by rw [S_len]; exact szl_le hl, w, q _ H G r (.str [c]) (Grw.refl _) Fr.refl⟩)
      · rw [if_neg hl] at e; cases e
    | _ => cases dy <;> cases e) h
/-- a part of a slice -/
def ROi : Rl (Option Int) (Option Int) := fun _ _ _ _ _ o p => o = p
instance : RlMono ROi := ⟨fun _ q => q⟩
def poN : Sm (Option Int) := fun e => some (.ok none e)
def poS (m : Sm D) : Sm (Option Int) := bnd m fun d e => match d with
  | .int i => some (.ok (some i) e)
  | _ => none
theorem po_imp {e : Option Expr} {t t' : TO} (h : PO X e t) (k : ∀ σ H Q, t' σ H Q → t σ H Q) : PO X e t' := ⟨fun pins s σ H Q I q => h.run pins s σ H Q I (k σ H Q q)⟩
theorem o_none : PO X none (tX κ W ROi poN) := po_imp po_none fun σ H Q ⟨G, env, r, q⟩ => q none H G r rfl (Grw.refl _) Fr.refl
theorem o_some (h : PE X a (tX κ W (RB κ) ma)) : PO X (some a) (tX κ W ROi (poS ma)) := po_imp (po_some h) fun σ H Q ⟨G, env, r, q⟩ =>
  bind_post r q fun d e1 v H1 G1 _ r1 rv s1 f1 q1 => by
    cases d <;> try (cases q1; done)
    exact ⟨_, RBq.int rv, q1 _ H1 G1 r1 rfl (Grw.refl _) Fr.refl⟩
def cutL {α : Type} (l : List α) (lo hi : Option Int) : List α := (l.drop (HT.sIx l.length 0 lo)).take (HT.sIx l.length l.length hi - HT.sIx l.length 0 lo)
def opSl : D → Option Int → Option Int → Option Rs
  | .str w, lo, hi => if w.length ≤ szl then some (.sh (.str (cutL w lo hi))) else none
  | .lst l, lo, hi => some (.ow (cutL l lo hi))
  | .scr l, lo, hi => some (.ow ((cutL l lo hi).map D.int))
  | .tup l, lo, hi => if HT.sIx l.length 0 lo = 0 ∧ HT.sIx l.length l.length hi = l.length then none else some (.sh (.tup (cutL l lo hi)))
  | _, _, _ => none
def fSl (m : Sm D) (lo hi : Sm (Option Int)) : Sm Rs := bnd m fun d => bnd lo fun i => bnd hi fun j e => match opSl d i j with
  | some z => some (.ok z e)
  | none => none
theorem v_sl {lo hi : Option Expr} {ml mh : Sm (Option Int)} (hK : X.K = κ.K) (ha : PE X a (tX κ W (RB κ) ma)) (hl : PO X lo (tX κ W ROi ml)) (hh : PO X hi (tX κ W ROi mh)) :
    PE X (.Subscript a (.Slice lo hi none p2) pos) (tX κ W (RV κ) (fSl ma ml mh)) :=
  PE.imp (pe_slice (r := fun x lo hi H Q => rSlS x lo hi H Q ∨ rSlL κ.K x lo hi H Q ∨ rSlT κ.K x lo hi H Q) (by rw [← hK]; exact SlR.or sl_str (SlR.or sl_list sl_tup)) ha hl hh) fun σ H Q ⟨G, env, r, q⟩ => by
    refine bind_post r q fun d e1 x H1 G1 _ r1 rx s1 f1 q1 => ?_
    refine bind_post r1 q1 fun i e2 i' H2 G2 _ r2 ri s2 f2 q2 => ?_
    refine bind_post r2 q2 fun j e3 j' H3 G3 _ r3 rj s3 f3 q3 => ?_
    cases ri
    cases rj
    have rx3 := RBq.mono (s2.trans s3) (f2.gk.trans f3.gk) rx
    cases d with
    | str w =>
      dsimp only [opSl] at q3
      by_cases h : w.length ≤ szl
      · rw [if_pos h] at q3
        exact .inl ⟨S w, rx3.str, by rw [S_len]; exact szl_le h, post_sh r3 (show Rp κ G3 (.str (cutS (S w) i j)) (.str (cutL w i j)) by
          have e : cutS (S w) i j = S (cutL w i j) := by
            unfold cutS cutL S
            rfl
          rw [e]; exact .str _) q3⟩
      · rw [if_neg h] at q3; exact q3.elim
    | lst l =>
      obtain ⟨p, xs, rfl, h1, h2⟩ := rx3.lst r3.sub
      refine .inr (.inl ⟨p, xs, rfl, SqL.of h1, fun p' hp => ?_⟩)
      have e : RpA κ G3 (cutV xs i j) (cutL l i j) := by
        unfold cutV cutL
        rw [h2.length]
        exact (h2.drop _).take _
      exact post_ow r3 hp e q3
    | scr l =>
      obtain ⟨p, rfl, h1⟩ := rx3.scr r3.sub
      refine .inr (.inl ⟨p, _, rfl, h1, fun p' hp => ?_⟩)
      have e : RpA κ G3 (cutV (l.map V.int) i j) ((cutL l i j).map D.int) := by
        have e2 : cutV (l.map V.int) i j = (cutL l i j).map V.int := by
          unfold cutV cutL
          rw [List.length_map, List.map_take, List.map_drop]
        rw [e2]
        exact RpA.ints _
      exact post_ow r3 hp e q3
    | tup l =>
      dsimp only [opSl] at q3
      by_cases h : HT.sIx l.length 0 i = 0 ∧ HT.sIx l.length l.length j = l.length
      · rw [if_pos h] at q3; exact q3.elim
      · rw [if_neg h] at q3
        obtain ⟨p, xs, rfl, h1, h2⟩ := rx3.tup r3.sub
        refine .inr (.inr ⟨p, xs, rfl, SqT.of h1, by rw [h2.length]; exact h, fun p' hp => ?_⟩)
        have e : RpA κ G3 (cutV xs i j) (cutL l i j) := by
          unfold cutV cutL
          rw [h2.length]
          exact (h2.drop _).take _
        exact post_tup r3 hp e q3
    | _ => exact q3.elim
end
/-! ### arguments -/
def aNil : Sm (List D) := fun e => some (.ok [] e)
def aCons (m : Sm D) (ms : Sm (List D)) : Sm (List D) := bnd m fun d => bnd ms fun ds e => some (.ok (d :: ds) e)
theorem RBs.mono {κ : Kx} {H G H' G' : Hp} (h : Grw H H') (g : Same G G') : ∀ {ms : List Bool} {vs : List V} {ds : List D}, RBs κ H G ms vs ds → RBs κ H' G' ms vs ds
  | _, _, _, .nil => .nil
  | _, _, _, .sh r t => .sh (r.mono g) (RBs.mono h g t)
  | _, _, _, .bo r t => .bo (RBq.mono h g r) (RBs.mono h g t)
section
variable {X : Cx} {κ : Kx} {W : WX} {a b c : Expr} {ma mb mc : Sm D} {es : List Expr} {ms : List Bool} {mr : Sm (List D)} {pos p2 : Pos}
theorem a_nil : PA X [] (tX κ W (RA κ []) aNil) := PA.imp pa_nil fun σ H Q ⟨G, env, r, q⟩ => q [] H G r .nil (Grw.refl _) Fr.refl
theorem a_bo (ha : PE X a (tX κ W (RB κ) ma)) (hr : PA X es (tX κ W (RA κ ms) mr)) (hs : starEach (a :: es) X.env = (false, eval a X.env) :: starEach es X.env := by rfl) : PA X (a :: es) (tX κ W (RA κ (true :: ms)) (aCons ma mr)) :=
  PA.imp (pa_cons ha hr hs) fun σ H Q ⟨G, env, r, q⟩ => by
    refine bind_post r q fun d e1 x H1 G1 _ r1 rx s1 f1 q1 => ?_
    refine bind_post r1 q1 fun ds e2 vs H2 G2 _ r2 rs s2 f2 q2 => ?_
    exact q2 (x :: vs) H2 G2 r2 (.bo (RBq.mono s2 f2.gk rx) rs) (Grw.refl _) Fr.refl
theorem a_sh (ha : PE X a (tX κ W (RP κ) ma)) (hr : PA X es (tX κ W (RA κ ms) mr)) (hs : starEach (a :: es) X.env = (false, eval a X.env) :: starEach es X.env := by rfl) : PA X (a :: es) (tX κ W (RA κ (false :: ms)) (aCons ma mr)) :=
  PA.imp (pa_cons ha hr hs) fun σ H Q ⟨G, env, r, q⟩ => by
    refine bind_post r q fun d e1 x H1 G1 _ r1 rx s1 f1 q1 => ?_
    refine bind_post r1 q1 fun ds e2 vs H2 G2 _ r2 rs s2 f2 q2 => ?_
    exact q2 (x :: vs) H2 G2 r2 (.sh (Rp.mono f2.gk rx) rs) (Grw.refl _) Fr.refl
/-- all given away -/
def allSh : List Bool → Bool
  | [] => true
  | b :: r => !b && allSh r
theorem RBs.all : ∀ {ms : List Bool} {vs : List V} {ds : List D} {H G : Hp}, allSh ms = true → RBs κ H G ms vs ds → RpA κ G vs ds
  | _, _, _, _, _, _, .nil => .nil
  | _, _, _, _, _, h, .sh r t => .cons r (RBs.all (by simpa [allSh] using h) t)
  | _, _, _, _, _, h, .bo r t => by simp [allSh] at h
def fLst (m : Sm (List D)) : Sm Rs := bnd m fun l e => if l.length ≤ szl then some (.ok (.ow l) e) else none
def fTup (m : Sm (List D)) : Sm D := bnd m fun l e => if l.length ≤ szl then some (.ok (.tup l) e) else none
theorem v_lst (hm : allSh ms = true) (h : PA X es (tX κ W (RA κ ms) mr)) : PE X (.List es pos) (tX κ W (RV κ) (fLst mr)) := PE.imp (pe_lst h) fun σ H Q ⟨G, env, r, q⟩ => by
  refine bind_post r q fun l e1 vs H1 G1 _ r1 rx s1 f1 q1 => ?_
  by_cases hl : l.length ≤ szl
  · rw [if_pos hl] at q1
    have ra := RBs.all hm rx
    exact ⟨by rw [ra.length]; exact szl_le hl, fun p hp => post_ow r1 hp ra q1⟩
  · rw [if_neg hl] at q1; exact q1.elim
theorem v_tup {x1 : Nat} (hm : allSh ms = true) (h : PA X es (tX κ W (RA κ ms) mr)) : PE X (.Tuple es x1 pos) (tX κ W (RP κ) (fTup mr)) := PE.imp (pe_tup h) fun σ H Q ⟨G, env, r, q⟩ => by
  refine bind_post r q fun l e1 vs H1 G1 _ r1 rx s1 f1 q1 => ?_
  by_cases hl : l.length ≤ szl
  · rw [if_pos hl] at q1
    have ra := RBs.all hm rx
    refine ⟨by rw [ra.length]; exact szl_le hl, fun p hp => ?_⟩
    have s := new_sh (o := .tup vs) r1 hp
    exact q1 _ _ _ s.rep (.tup upd_same (ra.mono (same_new (Same.none r1.sub hp)))) s.same s.fr
  · rw [if_neg hl] at q1; exact q1.elim
/-! ### built-ins by name -/
/-- a call on values serves its function -/
def ClV (κ : Kx) (ms : List Bool) (r : List V → Hp → VK → Prop) (f : List D → Option Rs) : Prop := ∀ (W : WX) (σ : L2.St) (vs : List V) (ds : List D) (z : Rs) (H : Hp) (G : Gh) (env : En) (Q : VK), f ds = some z → Rep κ H G σ env → RBs κ H G ms vs ds → EPost κ W (RV κ) σ H G env (some (.ok z env)) Q → r vs H Q
def fCl (f : List D → Option Rs) (m : Sm (List D)) : Sm Rs := bnd m fun ds e => match f ds with
  | some z => some (.ok z e)
  | none => none
theorem cl_tr {r : List V → Hp → VK → Prop} {f : List D → Option Rs} (hs : ClV κ ms r f) {σ : L2.St} {H : Hp} {Q : VK} (h : tX κ W (RV κ) (fCl f mr) σ H Q) : tCB r (tX κ W (RA κ ms) mr) σ H Q := by
  obtain ⟨G, env, rp, q⟩ := h
  refine bind_post rp q fun ds e1 vs H1 G1 _ r1 rx s1 f1 q1 => ?_
  cases z : f ds with
  | none => rw [z] at q1; exact q1.elim
  | some w => rw [z] at q1; exact hs W σ vs ds w H1 G1 e1 Q z r1 rx q1
theorem v_callB {r : List V → Hp → VK → Prop} {f : List D → Option Rs} {id : String} {x : Str} {p : Pos} (hc : CallR X (.builtin id) r) (hs : ClV κ ms r f) (hg : Gl X x) (hm : X.mg x = none) (hv : bootBuiltins x = some (.builtin id)) (ha : PA X (a :: es) (tX κ W (RA κ ms) mr))
    (hn : x ≠ "__name__" := by decide) (hdb : (x == ("__debug__" : Str)) = false := by decide) (he : starEach (a :: es) X.env = (false, eval a X.env) :: starEach es X.env := by rfl) (hpl : (backTo pos (starEach es X.env)).any (·.1) = false := by rfl) :
    PE X (.Call (.Name x p) (a :: es) [] pos) (tX κ W (RV κ) (fCl f mr)) := PE.imp (pe_callB hc hg hm hv ha hn hdb he hpl) fun σ H Q h => cl_tr hs h
theorem v_callTy {r : List V → Hp → VK → Prop} {f : List D → Option Rs} {T : String} {x : Str} {p : Pos} (hc : CallR X (.type T) r) (hs : ClV κ ms r f) (hg : Gl X x) (hm : X.mg x = none) (hv : bootBuiltins x = some (.type T)) (ha : PA X (a :: es) (tX κ W (RA κ ms) mr))
    (hn : x ≠ "__name__" := by decide) (hdb : (x == ("__debug__" : Str)) = false := by decide) (he : starEach (a :: es) X.env = (false, eval a X.env) :: starEach es X.env := by rfl) (hpl : (backTo pos (starEach es X.env)).any (·.1) = false := by rfl) :
    PE X (.Call (.Name x p) (a :: es) [] pos) (tX κ W (RV κ) (fCl f mr)) := PE.imp (pe_callTy hc hg hm hv ha hn hdb he hpl) fun σ H Q h => cl_tr hs h
end
theorem RBs.one {κ : Kx} {H G : Hp} {vs : List V} {d : D} (r : RBs κ H G [true] vs [d]) : ∃ v, vs = [v] ∧ RBq κ H G v d := by
  cases r with
  | bo r t => cases t; exact ⟨_, rfl, r⟩
theorem RBs.two {κ : Kx} {H G : Hp} {vs : List V} {d e : D} (r : RBs κ H G [true, true] vs [d, e]) : ∃ v u, vs = [v, u] ∧ RBq κ H G v d ∧ RBq κ H G u e := by
  cases r with
  | bo r t =>
    cases t with
    | bo r2 t2 => cases t2; exact ⟨_, _, rfl, r, r2⟩
def lenD : D → Option Nat
  | .str w => if w.length ≤ szl then some w.length else none
  | .lst l => some l.length
  | .tup l => some l.length
  | .scr l => some l.length
  | _ => none
def opLen : List D → Option Rs
  | [d] => match lenD d with
    | some n => some (.sh (.int n))
    | none => none
  | _ => none
theorem s_len {κ : Kx} : ClV κ [true] (fun xs H Q => ∃ x n, xs = [x] ∧ LenV κ.K x H n ∧ Q (.int n) H) opLen := fun W σ vs ds z H G env Q e r rx q => by
  cases ds with
  | nil => cases e
  | cons d t =>
    cases t with
    | cons _ _ => cases e
    | nil =>
      obtain ⟨v, rfl, rv⟩ := RBs.one rx
      dsimp only [opLen] at e
      cases w : lenD d with
      | none => rw [w] at e; cases e
      | some n =>
        rw [w] at e
        cases e
        refine ⟨v, n, rfl, ?_, post_sh r (.int _) q⟩
        cases d <;> try (cases w; done)
        · rename_i t
          dsimp only [lenD] at w
          by_cases h : t.length ≤ szl
          · rw [if_pos h] at w
            cases w
            rw [rv.str]
            exact ⟨by rw [S_len]; exact szl_le h, (S_len _).symm⟩
          · rw [if_neg h] at w; cases w
        · cases w
          obtain ⟨p, xs, rfl, h1, h2⟩ := rv.lst r.sub
          exact .inl ⟨xs, SqL.of h1, h2.length.symm⟩
        · cases w
          obtain ⟨p, xs, rfl, h1, h2⟩ := rv.tup r.sub
          exact .inr ⟨xs, SqT.of h1, h2.length.symm⟩
        · cases w
          obtain ⟨p, rfl, h1⟩ := rv.scr r.sub
          exact .inl ⟨_, h1, by rw [List.length_map]⟩
def opList : List D → Option Rs
  | [.lst l] => some (.ow l)
  | [.tup l] => some (.ow l)
  | [.scr l] => some (.ow (l.map D.int))
  | _ => none
theorem s_list {κ : Kx} : ClV κ [true] (fun xs H Q => ∃ p ys, xs = [.ref p] ∧ (SqL κ.K H p ys ∨ SqT κ.K H p ys) ∧ ∀ l, H l = none → Q (.ref l) (upd H l (.lst ys))) opList := fun W σ vs ds z H G env Q e r rx q => by
  cases ds with
  | nil => cases e
  | cons d t =>
    cases t with
    | cons _ _ => cases d <;> cases e
    | nil =>
      obtain ⟨v, rfl, rv⟩ := RBs.one rx
      cases d <;> try (cases e; done)
      · cases e
        obtain ⟨p, xs, rfl, h1, h2⟩ := rv.lst r.sub
        exact ⟨p, xs, rfl, .inl (SqL.of h1), fun l hl => post_ow r hl h2 q⟩
      · cases e
        obtain ⟨p, xs, rfl, h1, h2⟩ := rv.tup r.sub
        exact ⟨p, xs, rfl, .inr (SqT.of h1), fun l hl => post_ow r hl h2 q⟩
      · cases e
        obtain ⟨p, rfl, h1⟩ := rv.scr r.sub
        exact ⟨p, _, rfl, .inl h1, fun l hl => post_ow r hl (RpA.ints _) q⟩
def opMin : List D → Option Rs
  | [.int i, .int j] => some (.sh (.int (if j < i then j else i)))
  | _ => none
def opMax : List D → Option Rs
  | [.int i, .int j] => some (.sh (.int (if j > i then j else i)))
  | _ => none
theorem two_ints {κ : Kx} {H G : Hp} {vs : List V} {ds : List D} {f : List D → Option Rs} {g : Int → Int → Rs} {z : Rs} (hf : ∀ ds z, f ds = some z → ∃ i j, ds = [.int i, .int j] ∧ z = g i j) (e : f ds = some z) (rx : RBs κ H G [true, true] vs ds) : ∃ i j, vs = [.int i, .int j] ∧ z = g i j := by
  obtain ⟨i, j, rfl, rfl⟩ := hf _ _ e
  obtain ⟨v, u, rfl, r1, r2⟩ := RBs.two rx
  exact ⟨i, j, by rw [r1.int, r2.int], rfl⟩
theorem s_min {κ : Kx} : ClV κ [true, true] (fun xs H Q => ∃ i j, xs = [.int i, .int j] ∧ Q (.int (if j < i then j else i)) H) opMin := fun W σ vs ds z H G env Q e r rx q => by
  obtain ⟨i, j, rfl, rfl⟩ := two_ints (g := fun i j => .sh (.int (if j < i then j else i))) (fun ds z e => by
    unfold opMin at e
    split at e
    · cases e; exact ⟨_, _, rfl, rfl⟩
    · cases e) e rx
  exact ⟨i, j, rfl, post_sh r (.int _) q⟩
theorem s_max {κ : Kx} : ClV κ [true, true] (fun xs H Q => ∃ i j, xs = [.int i, .int j] ∧ Q (.int (if j > i then j else i)) H) opMax := fun W σ vs ds z H G env Q e r rx q => by
  obtain ⟨i, j, rfl, rfl⟩ := two_ints (g := fun i j => .sh (.int (if j > i then j else i))) (fun ds z e => by
    unfold opMax at e
    split at e
    · cases e; exact ⟨_, _, rfl, rfl⟩
    · cases e) e rx
  exact ⟨i, j, rfl, post_sh r (.int _) q⟩
def opStr : List D → Option Rs
  | [.int i] => if i.natAbs.log2 < 1920 then some (.sh (.str (toString i : Str).cps.toList)) else none
  | _ => none
theorem s_str {κ : Kx} : ClV κ [true] (fun xs H Q => ∃ i, xs = [.int i] ∧ i.natAbs.log2 < 1920 ∧ Q (.str (toString i)) H) opStr := fun W σ vs ds z H G env Q e r rx q => by
  cases ds with
  | nil => cases e
  | cons d t =>
    cases t with
    | cons _ _ => cases d <;> cases e
    | nil =>
      obtain ⟨v, rfl, rv⟩ := RBs.one rx
      cases d <;> try (cases e; done)
      rename_i i
      dsimp only [opStr] at e
      by_cases h : i.natAbs.log2 < 1920
      · rw [if_pos h] at e
        cases e
        refine ⟨i, by rw [rv.int], h, post_sh r ?_ q⟩
        have := Rp.str (κ := κ) (G := G) (toString i : Str).cps.toList
        rw [S_list] at this
        exact this
      · rw [if_neg h] at e; cases e
def allInts : List D → Option (List Int)
  | [] => some []
  | .int i :: r => match allInts r with
    | some l => some (i :: l)
    | none => none
  | _ :: _ => none
theorem allInts_of : ∀ {l : List D} {ns : List Int}, allInts l = some ns → l = ns.map D.int
  | [], _, e => by cases e; rfl
  | d :: r, ns, e => by
    cases d <;> try (cases e; done)
    rename_i i
    dsimp only [allInts] at e
    cases h : allInts r with
    | none => rw [h] at e; cases e
    | some l =>
      rw [h] at e
      cases e
      rw [allInts_of h]
      rfl
theorem RpA.ofInts {κ : Kx} {G : Hp} : ∀ {ns : List Int} {xs : List V}, RpA κ G xs (ns.map D.int) → xs = ns.map V.int
  | [], _, .nil => rfl
  | n :: r, _, .cons (.int _) t => by rw [RpA.ofInts t]; rfl
def opSum : List D → Option Rs
  | [.lst l] => match allInts l with
    | some ns => some (.sh (.int ns.sum))
    | none => none
  | _ => none
theorem s_sum {κ : Kx} : ClV κ [true] (rSum κ.K) opSum := fun W σ vs ds z H G env Q e r rx q => by
  cases ds with
  | nil => cases e
  | cons d t =>
    cases t with
    | cons _ _ => cases d <;> cases e
    | nil =>
      obtain ⟨v, rfl, rv⟩ := RBs.one rx
      cases d <;> try (cases e; done)
      rename_i l
      dsimp only [opSum] at e
      cases h : allInts l with
      | none => rw [h] at e; cases e
      | some ns =>
        rw [h] at e
        cases e
        rw [allInts_of h] at rv
        obtain ⟨p, xs, rfl, h1, h2⟩ := rv.lst r.sub
        rw [RpA.ofInts h2] at h1
        exact ⟨p, ns, rfl, SqL.of h1, post_sh r (.int _) q⟩

/-! ### tests -/
def truD : D → Option Bool
  | .non => some false
  | .bl b => some b
  | .int i => some (i != 0)
  | .str w => if w.length ≤ szl then some (!w.isEmpty) else none
  | .lst l => some (!l.isEmpty)
  | .tup l => some (!l.isEmpty)
  | _ => none
def fTru (m : Sm D) : Sm Bool := bnd m fun d e => match truD d with
  | some b => some (.ok b e)
  | none => none
theorem RpA.emp {κ : Kx} {G : Hp} {xs : List V} {l : List D} (h : RpA κ G xs l) : xs.isEmpty = l.isEmpty := by cases h <;> rfl
theorem tru_of {κ : Kx} {H G : Hp} {v : V} {d : D} {b : Bool} (s : Same G H) (r : RBq κ H G v d) (e : truD d = some b) : TruV κ.K v H b := by
  cases d with
  | non => cases e; rw [r.non]; rfl
  | bl c => cases e; rw [r.bl]; rfl
  | int i => cases e; rw [r.int]; rfl
  | str w =>
    dsimp only [truD] at e
    by_cases h : w.length ≤ szl
    · rw [if_pos h] at e
      cases e
      rw [r.str]
      refine ⟨by rw [S_len]; exact szl_le h, ?_⟩
      rw [S_len]
      cases w <;> simp
      omega
    · rw [if_neg h] at e; cases e
  | lst l =>
    cases e
    obtain ⟨a, xs, rfl, h1, h2⟩ := r.lst s
    exact .inl ⟨xs, SqL.of h1, by rw [h2.emp]⟩
  | tup l =>
    cases e
    obtain ⟨a, xs, rfl, h1, h2⟩ := r.tup s
    exact .inr (.inl ⟨xs, SqT.of h1, by rw [h2.emp]⟩)
  | ob c l => cases e
  | scr l => cases e
  | xn o x => cases e
def fNot (m : Sm Bool) : Sm Bool := bnd m fun b e => some (.ok (!b) e)
def fAnd (m n : Sm Bool) : Sm Bool := bnd m fun b e => match b with
  | true => n e
  | false => some (.ok false e)
def fOr (m n : Sm Bool) : Sm Bool := bnd m fun b e => match b with
  | true => some (.ok true e)
  | false => n e
def fIf {α : Type} (t : Sm Bool) (m n : Sm α) : Sm α := bnd t fun b e => match b with
  | true => m e
  | false => n e
def fBl (m : Sm D) : Sm Bool := bnd m fun d e => match d with
  | .bl b => some (.ok b e)
  | _ => none
def fNotV (m : Sm D) : Sm D := bnd m fun d e => match d with
  | .bl b => some (.ok (.bl (!b)) e)
  | _ => none
def fAndV (m n : Sm D) : Sm D := bnd m fun d e => match d with
  | .bl true => n e
  | .bl false => some (.ok (.bl false) e)
  | _ => none
def fOrV (m n : Sm D) : Sm D := bnd m fun d e => match d with
  | .bl true => some (.ok (.bl true) e)
  | .bl false => n e
  | _ => none
section
variable {X : Cx} {κ : Kx} {W : WX} {a b c : Expr} {ma mb mc : Sm D} {mt mu : Sm Bool} {rest : List Expr} {pos : Pos}
theorem t_tru (hK : X.K = κ.K) (ha : PE X a (tX κ W (RB κ) ma)) (he : ∀ whole, isTrue a X.env whole = (do let v ← whole; standAt a.pos; holding [v] (truthy v)) := by intro _; rfl) : PT X a (tX κ W RT (fTru ma)) :=
  PT.imp (pt_truth ha he) fun σ H Q ⟨G, env, r, q⟩ => bind_post r q fun d e1 v H1 G1 em r1 rv s1 f1 q1 => by
    cases w : truD d with
    | none => rw [w] at q1; exact q1.elim
    | some b =>
      rw [w] at q1
      exact ⟨b, by rw [hK]; exact tru_of r1.sub rv w, post_tt r1 q1⟩
theorem t_not (ha : PT X a (tX κ W RT mt)) : PT X (.UnaryOp .Not a pos) (tX κ W RT (fNot mt)) := PT.imp (pt_not ha) fun σ H Q ⟨G, env, r, q⟩ => bind_post r q fun d e1 v H1 G1 em r1 rv s1 f1 q1 => by
  cases rv
  exact post_tt r1 q1
theorem w_and1 (ha : PT X a (tX κ W RT mt)) : PW X (.BoolOp .And [a] pos) (tX κ W RT mt) := pw_and1 ha
theorem w_or1 (ha : PT X a (tX κ W RT mt)) : PW X (.BoolOp .Or [a] pos) (tX κ W RT mt) := pw_or1 ha
theorem w_and (ha : PT X a (tX κ W RT mt)) (hb : PW X (.BoolOp .And (b :: rest) pos) (tX κ W RT mu)) : PW X (.BoolOp .And (a :: b :: rest) pos) (tX κ W RT (fAnd mt mu)) := PW.imp (pw_and ha hb) fun σ H Q ⟨G, env, r, q⟩ => bind_post r q fun d e1 v H1 G1 em r1 rv s1 f1 q1 => by
  cases rv
  cases d with
  | true => exact ⟨G1, e1, r1, q1⟩
  | false => exact post_tt r1 q1
theorem w_or (ha : PT X a (tX κ W RT mt)) (hb : PW X (.BoolOp .Or (b :: rest) pos) (tX κ W RT mu)) : PW X (.BoolOp .Or (a :: b :: rest) pos) (tX κ W RT (fOr mt mu)) := PW.imp (pw_or ha hb) fun σ H Q ⟨G, env, r, q⟩ => bind_post r q fun d e1 v H1 G1 em r1 rv s1 f1 q1 => by
  cases rv
  cases d with
  | false => exact ⟨G1, e1, r1, q1⟩
  | true => exact post_tt r1 q1
theorem v_if (ht : PT X c (tX κ W RT mt)) (ha : PE X a (tX κ W (RP κ) ma)) (hb : PE X b (tX κ W (RP κ) mb)) : PE X (.IfExp c a b pos) (tX κ W (RP κ) (fIf mt ma mb)) := PE.imp (pe_ifExp ht ha hb) fun σ H Q ⟨G, env, r, q⟩ => bind_post r q fun d e1 v H1 G1 em r1 rv s1 f1 q1 => by
  cases rv
  cases d with
  | true => exact ⟨G1, e1, r1, q1⟩
  | false => exact ⟨G1, e1, r1, q1⟩
theorem v_one {op : BoolOp} (h : PE X a (tX κ W (RP κ) ma)) : PE X (.BoolOp op [a] pos) (tX κ W (RP κ) ma) := pe_one h
theorem v_and (ha : PE X a (tX κ W (RP κ) ma)) (hb : PE X (.BoolOp .And (b :: rest) pos) (tX κ W (RP κ) mb)) : PE X (.BoolOp .And (a :: b :: rest) pos) (tX κ W (RP κ) (fAndV ma mb)) := PE.imp (pe_and ha hb) fun σ H Q ⟨G, env, r, q⟩ => bind_post r q fun d e1 v H1 G1 em r1 rv s1 f1 q1 => by
  cases d <;> try (cases q1; done)
  cases rv
  rename_i k
  refine ⟨k, rfl, ?_⟩
  cases k with
  | true => exact ⟨G1, e1, r1, q1⟩
  | false => exact q1 _ H1 G1 r1 (.bl false) (Grw.refl _) Fr.refl
theorem v_or (ha : PE X a (tX κ W (RP κ) ma)) (hb : PE X (.BoolOp .Or (b :: rest) pos) (tX κ W (RP κ) mb)) : PE X (.BoolOp .Or (a :: b :: rest) pos) (tX κ W (RP κ) (fOrV ma mb)) := PE.imp (pe_or ha hb) fun σ H Q ⟨G, env, r, q⟩ => bind_post r q fun d e1 v H1 G1 em r1 rv s1 f1 q1 => by
  cases d <;> try (cases q1; done)
  cases rv
  rename_i k
  refine ⟨k, rfl, ?_⟩
  cases k with
  | false => exact ⟨G1, e1, r1, q1⟩
  | true => exact q1 _ H1 G1 r1 (.bl true) (Grw.refl _) Fr.refl
theorem v_not (ha : PE X a (tX κ W (RP κ) ma)) : PE X (.UnaryOp .Not a pos) (tX κ W (RP κ) (fNotV ma)) := PE.imp (pe_not ha) fun σ H Q ⟨G, env, r, q⟩ => bind_post r q fun d e1 v H1 G1 em r1 rv s1 f1 q1 => by
  cases d <;> try (cases q1; done)
  cases rv
  rename_i k
  exact ⟨k, rfl, q1 _ H1 G1 r1 (.bl _) (Grw.refl _) Fr.refl⟩
def fNeg (m : Sm D) : Sm D := bnd m fun d e => match d with
  | .int i => some (.ok (.int (-i)) e)
  | _ => none
theorem v_neg (ha : PE X a (tX κ W (RP κ) ma)) : PE X (.UnaryOp .USub a pos) (tX κ W (RP κ) (fNeg ma)) := PE.imp (pe_un un_neg ha) fun σ H Q ⟨G, env, r, q⟩ => bind_post r q fun d e1 v H1 G1 em r1 rv s1 f1 q1 => by
  cases d <;> try (cases q1; done)
  cases rv
  exact ⟨_, rfl, q1 _ H1 G1 r1 (.int _) (Grw.refl _) Fr.refl⟩
theorem t_chain {op op' : CmpOp} {r r' : R2} {f g : D → D → Option Bool} (ho : OpR X (compareOp op) r) (hs : OpB κ r f) (ho' : OpR X (compareOp op') r') (hs' : OpB κ r' g) (ha : PE X a (tX κ W (RB κ) ma)) (hb : PE X b (tX κ W (RB κ) mb)) (hc : PE X c (tX κ W (RB κ) mc))
    (hm : lastMarks [op, op'] [b, c] = false := by with_unfolding_all rfl) : PT X (.Compare a [op, op'] [b, c] pos) (tX κ W RT (fCh f g ma mb mc)) := PT.imp (pt_chain ho ho' ha hb hc hm) fun σ H Q ⟨G, env, rp, q⟩ => by
  refine bind_post rp q fun dx e1 x H1 G1 _ rp1 rx s1 f1 q1 => ?_
  refine bind_post rp1 q1 fun dy e2 y H2 G2 _ rp2 ry s2 f2 q2 => ?_
  cases z : f dx dy with
  | none => rw [z] at q2; exact q2.elim
  | some w =>
    rw [z] at q2
    refine hs x y dx dy w H2 G2 _ z rp2.sub (RBq.mono s2 f2.gk rx) ry ⟨w, rfl, ?_⟩
    cases w with
    | false => exact ⟨false, rfl, post_tt rp2 q2⟩
    | true =>
      refine bind_post rp2 q2 fun dz e3 u H3 G3 _ rp3 ru s3 f3 q3 => ?_
      cases z3 : g dy dz with
      | none => rw [z3] at q3; exact q3.elim
      | some k =>
        rw [z3] at q3
        exact hs' y u dy dz k H3 G3 _ z3 rp3.sub (RBq.mono s3 f3.gk ry) ru ⟨k, rfl, post_tt rp3 q3⟩
end
/-! ### slots stored -/
def Rs.sl : Rs → Sl
  | .sh d => .sh d
  | .ow l => .ow l
  | .tr o => .tr o
/-- what is stored at slot i from here on -/
theorem put_all {κ : Kx} {σ : L2.St} {H H0 : Hp} {G G0 : Gh} {env env0 : En} {σ0 : L2.St} {v : V} (r : Rep κ H G σ env) {i : Nat} (hi : i < env.length) {z : Rs} (h : RV κ σ (Nw H0 G0 env0) H G env v z) (f : Fr H0 G0 σ0 env0 H G σ env) :
    ∃ G', Rep κ H G' (σ.set i (some v)) (env.set i z.sl) ∧ Fr H0 G0 σ0 env0 H G' (σ.set i (some v)) (env.set i z.sl) := by
  have e0 : env[i]? = some env[i] := List.getElem?_eq_getElem hi
  have go : ∀ {F : List Addr} {s : Sl}, s.fix = false → RSl κ H G (some (some v)) F s → (∀ a, a ∈ F → Fre G env a ∧ Nw H0 G0 env0 a) →
      ∃ G', Rep κ H G' (σ.set i (some v)) (env.set i s) ∧ Fr H0 G0 σ0 env0 H G' (σ.set i (some v)) (env.set i s) := fun {F s} nf hs hF => by
    have re := r.re (s := s) (F := F) (H' := H) (g' := G.g) (x := some v) hi r.sub (Same.refl _) hs (fun _ _ _ _ _ _ _ h => h) (fun j a w ow => (r.own ow).2) fun a m j t w e => (hF a m).1 j t e
    refine ⟨_, re, f.hk, f.gk, f.gn, fun a o e m => ?_, fun j t q e => ?_⟩
    · obtain ⟨j, t, e1, hm, m⟩ := m
      have m1 : a ∈ (G.put i F).fp j := m
      rcases set_look e1 with ⟨rfl, rfl⟩ | ⟨w, e2⟩
      · rw [put_at] at m1
        exact (hF a m1).2 o e
      · rw [put_ne w] at m1
        exact f.mm a o e ⟨j, t, e2, hm, m1⟩
    · rcases set_look e with ⟨rfl, rfl⟩ | ⟨w, e2⟩
      · rw [nf] at q; cases q
      · obtain ⟨s0, q1, q2, q3, q4⟩ := f.lk j t q e2
        refine ⟨s0, q1, q2, by rw [List.getElem?_set_ne w]; exact q3, fun y1 y2 => ?_⟩
        show (G.put i F).fp j = _
        rw [put_ne w]
        exact q4 y1 y2
  cases z with
  | sh d => exact go (F := []) (s := .sh d) rfl ⟨rfl, v, rfl, h⟩ fun a m => by cases m
  | ow l =>
    obtain ⟨a, xs, rfl, h2, h3, h4, h5, h6⟩ := h
    exact go (F := [a]) (s := .ow l) rfl ⟨_, rfl, .ls h2 h3 h4⟩ fun b m => by rw [List.mem_singleton.mp m]; exact ⟨h5, h6⟩
  | tr o =>
    obtain ⟨F, ro, h⟩ := h
    exact go (F := F) (s := .tr o) rfl ⟨_, rfl, ro⟩ h
/-! ### statements -/
def sNil : Ss := fun e => some (.nx e)
def sSeq (m n : Ss) : Ss := fun e => match m e with
  | some (.nx e1) => n e1
  | o => o
def sDrop (m : Sm Rs) : Ss := sbnd m fun _ e => some (.nx e)
def sAsg (i : Nat) (m : Sm Rs) : Ss := sbnd m fun r e => if i < e.length then some (.nx (e.set i r.sl)) else none
def sRet (m : Sm Rs) : Ss := sbnd m fun r _ => some (.rt r)
/-- .. where a thing was handed in to be changed -/
def sRetI (m : Sm Rs) : Ss := sbnd m fun r e => some (.rv r e)
def sRetV (i : Nat) : Ss := fun e => match e[i]? with
  | some (.sh d) => some (.rt (.sh d))
  | some (.ow l) => some (.rt (.ow l))
  | some (.tr o) => some (.rt (.tr o))
  | _ => none
def sRetN : Ss := fun _ => some (.rt (.sh .non))
def sRetNI : Ss := fun e => some (.rv (.sh .non) e)
def sIf (t : Sm Bool) (m n : Ss) : Ss := sbnd t fun b e => match b with
  | true => m e
  | false => n e
def sBrk : Ss := fun e => some (.bk e)
def sCnt : Ss := fun e => some (.ct e)
section
variable {X : Cx} {κ : Kx} {W : WX} {a b c e : Expr} {st : Stmt} {sts su : List Stmt} {m n : Ss} {mr : Sm Rs} {md : Sm D} {mt : Sm Bool} {pos pos' : Pos}
theorem s_nil : PSs X [] (tS κ W sNil) := PSs.imp pss_nil fun D σ H ⟨G, env, r, q⟩ => q σ H G r Fr.refl
theorem s_cons (h1 : PS X st (tS κ W m)) (h2 : PSs X sts (tS κ W n)) : PSs X (st :: sts) (tS κ W (sSeq m n)) := PSs.imp (pss_cons h1 h2) fun D σ H ⟨G, env, r, q⟩ => by
  refine ⟨G, env, r, ?_⟩
  unfold sSeq at q
  cases z : m env with
  | none => rw [z] at q; exact q
  | some o => cases o with
    | nx e1 =>
      rw [z] at q
      exact fun σ' H' G' r' f => ⟨G', e1, r', SPost.shift f q⟩
    | bk e1 => rw [z] at q; exact q
    | ct e1 => rw [z] at q; exact q
    | rt r1 => rw [z] at q; exact q
    | rv r1 e1 => rw [z] at q; exact q
    | ex x e1 => rw [z] at q; exact q
theorem s_one (h1 : PS X st (tS κ W m)) : PSs X [st] (tS κ W m) := pss_one h1
theorem s_pass : PS X (.Pass pos) (tS κ W sNil) := PS.imp ps_pass fun D σ H ⟨G, env, r, q⟩ => q σ H G r Fr.refl
theorem s_brk : PS X (.Break pos) (tS κ W sBrk) := PS.imp ps_break fun D σ H ⟨G, env, r, q⟩ => q σ H G r Fr.refl
theorem s_cnt : PS X (.Continue pos) (tS κ W sCnt) := PS.imp ps_continue fun D σ H ⟨G, env, r, q⟩ => q σ H G r Fr.refl
theorem s_dropI (h : PE X e (tI κ W (RV κ) mr)) (hs : swapsWith e none pos.line X.env = pure false := by rfl) : PS X (.Expr e pos) (tS κ W (sDrop mr)) := PS.imp (ps_expr h hs) fun D σ H ⟨G, env, r, q⟩ => sbind_post r q fun z e1 v H1 G1 _ r1 rv f1 q1 => q1 σ H1 G1 r1 Fr.refl
theorem s_drop (h : PE X e (tX κ W (RV κ) mr)) (hs : swapsWith e none pos.line X.env = pure false := by rfl) : PS X (.Expr e pos) (tS κ W (sDrop mr)) := s_dropI (im h) hs
theorem s_asgI {i : Nat} {x : Str} (hN : X.N.Nodup) (hi : X.N[i]? = some x) (hx : Loc X.env.scope x) (h : PE X e (tI κ W (RV κ) mr)) (hs : swapsWith e (some (.Name x pos')) pos.line X.env = pure false := by rfl)
    (hf : X.fn x = true ∨ X.env.scope.names.lookup x = some .local := by first | exact .inl rfl | exact .inr rfl | assumption) : PS X (.Assign [.Name x pos'] e pos) (tS κ W (sAsg i mr)) := PS.imp (ps_set hN hi hx h hs hf) fun D σ H ⟨G, env, r, q⟩ => by
  refine ⟨G, env, r, ?_⟩
  unfold sAsg sbnd at q
  cases w : mr env with
  | none => rw [w] at q; exact q
  | some o => cases o with
    | ex x e1 =>
      rw [w] at q
      exact fun c d H' G' a b g => q c d σ H' G' a b g
    | ok z e1 =>
      rw [w] at q
      intro v H1 G1 r1 rv f1
      by_cases hl : i < e1.length
      · dsimp only at q
        rw [if_pos hl] at q
        obtain ⟨G2, r2, f2⟩ := put_all r1 hl rv f1
        exact q _ H1 G2 r2 f2
      · dsimp only at q
        rw [if_neg hl] at q; exact q.elim
theorem s_asg {i : Nat} {x : Str} (hN : X.N.Nodup) (hi : X.N[i]? = some x) (hx : Loc X.env.scope x) (h : PE X e (tX κ W (RV κ) mr)) (hs : swapsWith e (some (.Name x pos')) pos.line X.env = pure false := by rfl)
    (hf : X.fn x = true ∨ X.env.scope.names.lookup x = some .local := by first | exact .inl rfl | exact .inr rfl | assumption) : PS X (.Assign [.Name x pos'] e pos) (tS κ W (sAsg i mr)) := s_asgI hN hi hx (im h) hs hf
theorem rr_of {N : Addr → Prop} {H : Hp} {G : Gh} {σ : L2.St} {env : En} {v : V} {z : Rs} (rv : RV κ σ N H G env v z) : RR κ N H G v z := by
  cases z with
  | sh d => exact rv
  | ow l =>
    obtain ⟨a, xs, h1, h2, h3, h4, h5, h6⟩ := rv
    exact ⟨a, xs, h1, h2, h3, h4, h6⟩
  | tr o =>
    obtain ⟨F, h1, h2⟩ := rv
    exact ⟨F, h1, fun a m => (h2 a m).2⟩
theorem s_ret (h : PE X e (tX κ W (RV κ) mr)) : PS X (.Return (some e) pos) (tS κ W (sRet mr)) := PS.imp (ps_ret (im h)) fun D σ H ⟨G, env, r, q⟩ => by
  refine ⟨G, env, r, ?_⟩
  unfold sRet sbnd at q
  cases w : mr env with
  | none => rw [w] at q; exact q
  | some o => cases o with
    | ex x e1 =>
      rw [w] at q
      exact fun c d H' G' a b g => q c d σ H' G' a b g
    | ok z e1 =>
      rw [w] at q
      exact fun v H1 G1 r1 rv f1 => q v H1 G1 r1.sub (rr_of rv) ⟨f1.hk, f1.gk, f1.gn⟩
theorem s_retI (h : PE X e (tI κ W (RV κ) mr)) : PS X (.Return (some e) pos) (tS κ W (sRetI mr)) := PS.imp (ps_ret h) fun D σ H ⟨G, env, r, q⟩ => by
  refine ⟨G, env, r, ?_⟩
  unfold sRetI sbnd at q
  cases w : mr env with
  | none => rw [w] at q; exact q
  | some o => cases o with
    | ex x e1 =>
      rw [w] at q
      exact fun c d H' G' a b g => q c d σ H' G' a b g
    | ok z e1 =>
      rw [w] at q
      exact fun v H1 G1 r1 rv f1 => q v σ H1 G1 r1 rv f1
/-- an impure value in a def that is handed nothing to change -/
theorem s_retX (h : PE X e (tI κ W (RV κ) mr)) : PS X (.Return (some e) pos) (tS κ W (sRet mr)) := PS.imp (ps_ret h) fun D σ H ⟨G, env, r, q⟩ => by
  refine ⟨G, env, r, ?_⟩
  unfold sRet sbnd at q
  cases w : mr env with
  | none => rw [w] at q; exact q
  | some o => cases o with
    | ex x e1 =>
      rw [w] at q
      exact fun c d H' G' a b g => q c d σ H' G' a b g
    | ok z e1 =>
      rw [w] at q
      exact fun v H1 G1 r1 rv f1 => q v H1 G1 r1.sub (rr_of rv) ⟨f1.hk, f1.gk, f1.gn⟩
theorem s_retV {i : Nat} {x : Str} (h : PE X (.Name x pos') (tVar i)) : PS X (.Return (some (.Name x pos')) pos) (tS κ W (sRetV i)) := PS.imp (ps_ret h) fun D σ H ⟨G, env, r, q⟩ => by
  unfold sRetV at q
  have fr : FrR H G σ env H G := ⟨fun _ o h _ => ⟨o, h, fun _ => rfl⟩, Same.refl _, fun _ _ _ h _ => h⟩
  cases z : env[i]? with
  | none => rw [z] at q; exact q.elim
  | some s =>
    have rs := r.slot i s z
    rw [z] at q
    cases s with
    | un => exact q.elim
    | sh d =>
      obtain ⟨_, v, h1, h2⟩ := rs
      exact ⟨v, h1, q v H G r.sub h2 fr⟩
    | ow l =>
      obtain ⟨v, h1, ro⟩ := rs
      obtain ⟨a, xs, rfl, h0, h2, h3, h4⟩ := ro.ls_inv
      exact ⟨_, h1, q _ H G r.sub ⟨a, xs, rfl, h2, h3, h4, fun o _ => ⟨i, _, z, rfl, by rw [h0]; exact List.mem_singleton_self a⟩⟩ fr⟩
    | lk l => exact q.elim
    | bo l => exact q.elim
    | io o => exact q.elim
    | tr o =>
      obtain ⟨v, h1, ro⟩ := rs
      exact ⟨_, h1, q _ H G r.sub ⟨_, ro, fun a m o _ => ⟨i, _, z, rfl, m⟩⟩ fr⟩
theorem s_retN : PS X (.Return none pos) (tS κ W sRetN) := PS.imp ps_retN fun D σ H ⟨G, env, r, q⟩ => q .non H G r.sub .non ⟨fun _ o h _ => ⟨o, h, fun _ => rfl⟩, Same.refl _, fun _ _ _ h _ => h⟩
theorem s_retNI : PS X (.Return none pos) (tS κ W sRetNI) := PS.imp ps_retN fun D σ H ⟨G, env, r, q⟩ => q .non σ H G r .non Fr.refl
theorem s_ifI (ht : PT X c (tI κ W RT mt)) (h1 : PSs X sts (tS κ W m)) (h2 : PSs X su (tS κ W n)) : PS X (.If c sts su pos) (tS κ W (sIf mt m n)) := PS.imp (ps_if ht h1 h2) fun D σ H ⟨G, env, r, q⟩ => sbind_post r q fun z e1 v H1 G1 _ r1 rv f1 q1 => by
  cases rv
  cases z with
  | true => exact ⟨G1, e1, r1, q1⟩
  | false => exact ⟨G1, e1, r1, q1⟩
theorem s_if (ht : PT X c (tX κ W RT mt)) (h1 : PSs X sts (tS κ W m)) (h2 : PSs X su (tS κ W n)) : PS X (.If c sts su pos) (tS κ W (sIf mt m n)) := s_ifI (im_t ht) h1 h2
end

/-! ### own things changed -/
section
variable {κ : Kx} {W : WX} {σ : L2.St} {H H' : Hp} {G : Gh} {env : En} {v : V}
/-- the own thing at slot i is another one from here on, with its own addresses and new ones -/
theorem Rep.chgG (r : Rep κ H G σ env) {i : Nat} {s s' : Sl} {o o' : O} {F : List Addr} {g' : Hp} (e : env[i]? = some s) (hm : s.mut = true) (t : s.th = some o) (t' : s'.th = some o') (hf : s'.fix = true → s'.was s) (hm' : s'.mut = true) (ea : σ[i]? = some (some v))
    (gk : Same G.g g') (sub : Sub κ g' H') (gn : ∀ a u, H a = some u → G.g a = none → a ∉ G.fp i → g' a = none)
    (h : RO κ H' g' v o' F) (hk : ∀ a u, H a = some u → a ∉ G.fp i → ∃ o', H' a = some o' ∧ (nt u → o' = u)) (hF : ∀ a, a ∈ F → a ∈ G.fp i ∨ H a = none) :
    Rep κ H' ⟨g', (G.put i F).fp⟩ σ (env.set i s') ∧ Fr H G σ env H' ⟨g', (G.put i F).fp⟩ σ (env.set i s') := by
  have hi : i < env.length := (List.getElem?_eq_some_iff.mp e).1
  have me : ∀ a, a ∈ G.fp i → Own G env i a := fun a m => ⟨s, o, e, t, m⟩
  have re := r.re (s := s') (F := F) (H' := H') (g' := g') (x := some v) hi sub gk (RSl.of t' rfl h) (fun j u a w e2 m o' h => by
    obtain ⟨z, k1, k2⟩ := hk a o' h fun m' => w (r.inj i j a u (me a m') e2 m)
    rw [k1, k2 (r.pl e2 m h).1]) (fun j a w ow => by
    obtain ⟨u, o2, e2, t2, m2⟩ := id ow
    obtain ⟨⟨z, hz⟩, g0⟩ := r.own ow
    exact gn a z hz g0 fun m' => w (r.inj i j a u (me a m') e2 m2)) fun a m j u w e2 m2 => by
    rcases hF a m with q | q
    · exact w (r.inj i j a u (me a q) e2 m2)
    · obtain ⟨z, hz⟩ := r.live e2 m2
      rw [q] at hz
      cases hz
  have fr := Fr.re (σ := σ) (H := H) (H' := H') (g' := g') (s := s') (F := F) (x := some v) (s0 := s) e (fun a u h n => hk a u h fun m => n ⟨i, s, e, hm, m⟩) gk (fun a u h g n => gn a u h g fun m => n ⟨i, s, e, hm, m⟩)
    (fun _ a u m h => by
      rcases hF a m with q | q
      · exact ⟨i, s, e, hm, q⟩
      · rw [q] at h; cases h)
    fun q => ⟨hf q, by rw [ea]; rfl, (List.getElem?_eq_some_iff.mp ea).1, hm'⟩
  rw [set_same ea] at re fr
  exact ⟨re, fr⟩
theorem Rep.chgO (r : Rep κ H G σ env) {i : Nat} {s s' : Sl} {o o' : O} {F : List Addr} (e : env[i]? = some s) (hm : s.mut = true) (t : s.th = some o) (t' : s'.th = some o') (hf : s'.fix = true → s'.was s) (hm' : s'.mut = true) (ea : σ[i]? = some (some v))
    (h : RO κ H' G v o' F) (hk : ∀ a u, H a = some u → a ∉ G.fp i → H' a = some u) (hF : ∀ a, a ∈ F → a ∈ G.fp i ∨ H a = none) :
    ∃ G', G'.g = G.g ∧ Rep κ H' G' σ (env.set i s') ∧ Fr H G σ env H' G' σ (env.set i s') := by
  have sub : Sub κ G.g H' := ⟨fun a u q => hk a u (r.sub a u q) fun m => (by rw [(r.own ⟨s, o, e, t, m⟩).2] at q; cases q), r.sub.n, tabs_of r.sub.t fun a u q np => hk a u q fun m => np (r.pl e m q)⟩
  obtain ⟨re, fr⟩ := r.chgG e hm t t' hf hm' ea (Same.refl _) sub (fun _ _ _ h _ => h) h (fun a u q m => ⟨u, hk a u q m, fun _ => rfl⟩) hF
  exact ⟨⟨G.g, (G.put i F).fp⟩, rfl, re, fr⟩
/-- the slot that holds an own list to be changed -/
def setL (s : Sl) (l : List D) : Sl := match s with
  | .io _ => .io (.ls l)
  | _ => .ow l
def getL : Sl → Option (List D)
  | .ow l => some l
  | .io (.ls l) => some l
  | _ => none
theorem getL_th {s : Sl} {l : List D} (h : getL s = some l) : s.th = some (.ls l) ∧ s.mut = true := by
  cases s with
  | ow k => cases h; exact ⟨rfl, rfl⟩
  | io o => cases o <;> cases h; exact ⟨rfl, rfl⟩
  | _ => cases h
theorem setL_th {s : Sl} {l : List D} : (setL s l).th = some (.ls l) ∧ (setL s l).mut = true := by
  cases s <;> exact ⟨rfl, rfl⟩
theorem setL_was {s : Sl} {l k : List D} (h : getL s = some k) : (setL s l).fix = true → (setL s l).was s := fun q => by
  cases s with
  | ow k => cases q
  | io o => exact ⟨_, rfl⟩
  | _ => cases h
theorem lst_at (r : Rep κ H G σ env) {i : Nat} {s : Sl} {l : List D} (e : env[i]? = some s) (h : getL s = some l) : ∃ a xs, σ[i]? = some (some (.ref a)) ∧ H a = some (.lst xs) ∧ RpA κ G xs l ∧ G.fp i = [a] ∧ G.g a = none := by
  obtain ⟨v, h1, ro⟩ := (r.slot i s e).th (getL_th h).1
  obtain ⟨a, xs, rfl, h0, h2, h3, h4⟩ := ro.ls_inv
  exact ⟨a, xs, h1, h2, h4, h0, h3⟩
/-- the own list at slot i holds something else from here on -/
theorem Rep.chg (r : Rep κ H G σ env) {i : Nat} {s : Sl} {l l' : List D} {a : Addr} {ys : List V} (e : env[i]? = some s) (hl : getL s = some l) (ea : σ[i]? = some (some (.ref a))) (h : RpA κ G ys l') :
    ∃ G', G'.g = G.g ∧ Rep κ (upd H a (.lst ys)) G' σ (env.set i (setL s l')) ∧ Fr H G σ env (upd H a (.lst ys)) G' σ (env.set i (setL s l')) := by
  obtain ⟨b, xs, h1, h2, h3, h4, h5⟩ := lst_at r e hl
  rw [ea] at h1
  cases h1
  refine r.chgO e (getL_th hl).2 (getL_th hl).1 setL_th.1 (setL_was hl) setL_th.2 ea (.ls (xs := ys) upd_same h5 h) (fun b u q m => ?_) fun b m => .inl (by rw [h4]; exact m)
  have n : b ≠ a := fun z => m (by rw [h4, z]; exact List.mem_singleton_self a)
  rw [upd_ne n]
  exact q
end
/-- an own list, unlocked, stands in slot i -/
def sOwn (i : Nat) (s : Ss) : Ss := fun e => match e[i]? with
  | some (.ow _) => s e
  | some (.io (.ls _)) => s e
  | _ => none
/-- the own list at slot i changed -/
def chL (i : Nat) (f : List D → Option (List D)) : Ss := fun e => match e[i]? with
  | some (.ow l) => match f l with
    | some k => some (.nx (e.set i (.ow k)))
    | none => none
  | some (.io (.ls l)) => match f l with
    | some k => some (.nx (e.set i (.io (.ls k))))
    | none => none
  | _ => none
/-- xs.append(e) -/
def sApp (i : Nat) (m : Sm D) : Ss := sOwn i (sbnd m fun d => chL i fun l => if l.length < szl then some (l ++ [d]) else none)
/-- xs.extend(e) -/
def sExt (i : Nat) (m : Sm D) : Ss := sOwn i (sbnd m fun d => match d with
  | .lst k => chL i fun l => if l.length + k.length ≤ szl then some (l ++ k) else none
  | _ => fun _ => none)
def opSetI (l : List D) (i : Int) (d : D) : Option (List D) := match ixN l.length i with
  | some j => some (l.set j d)
  | none => none
/-- xs[j] = e -/
def sSetI (i : Nat) (mj m : Sm D) : Ss := sbnd m fun d => sOwn i (sbnd mj fun j => match j with
  | .int z => chL i fun l => opSetI l z d
  | _ => fun _ => none)
theorem sOwn_of {κ : Kx} {W : WX} {σ : L2.St} {H : Hp} {G : Gh} {env : En} {i : Nat} {s : Ss} {D0 : Ends} (q : SPost κ W σ H G env (sOwn i s env) D0) : ∃ t l, env[i]? = some t ∧ getL t = some l ∧ SPost κ W σ H G env (s env) D0 := by
  unfold sOwn at q
  cases z : env[i]? with
  | none => rw [z] at q; exact q.elim
  | some o =>
    rw [z] at q
    cases o with
    | ow l => exact ⟨_, l, rfl, rfl, q⟩
    | io o => cases o with
      | ls l => exact ⟨_, l, rfl, rfl, q⟩
      | _ => exact q.elim
    | _ => exact q.elim
theorem chL_of {κ : Kx} {W : WX} {σ : L2.St} {H : Hp} {G : Gh} {env : En} {i : Nat} {f : List D → Option (List D)} {D0 : Ends} (q : SPost κ W σ H G env (chL i f env) D0) : ∃ t l k, env[i]? = some t ∧ getL t = some l ∧ f l = some k ∧ SPost κ W σ H G env (some (.nx (env.set i (setL t k)))) D0 := by
  unfold chL at q
  cases z : env[i]? with
  | none => rw [z] at q; exact q.elim
  | some o =>
    rw [z] at q
    cases o with
    | ow l =>
      dsimp only at q
      cases w : f l with
      | none => rw [w] at q; exact q.elim
      | some k => rw [w] at q; exact ⟨_, l, k, rfl, rfl, w, q⟩
    | io o => cases o with
      | ls l =>
        dsimp only at q
        cases w : f l with
        | none => rw [w] at q; exact q.elim
        | some k => rw [w] at q; exact ⟨_, l, k, rfl, rfl, w, q⟩
      | _ => exact q.elim
    | _ => exact q.elim
section
variable {X : Cx} {κ : Kx} {W : WX} {a b c e : Expr} {m : Sm D} {mj : Sm D} {pos pos' p2 : Pos}
/-- o.m(e) as a statement, o an own list's name: the reading of the method's call -/
theorem own_call {r : V → List V → Hp → VK → Prop} {R : Rl D V} {i : Nat} {f : D → Ss} {D0 : Ends} {σ : L2.St} {H : Hp} {G : Gh} {env : En} (rp : Rep κ H G σ env) (hq : SPost κ W σ H G env (sOwn i (sbnd m f) env) D0)
    (k : ∀ d e1 v a H1 G1, Rep κ H1 G1 σ e1 → R σ (Nw H G env) H1 G1 e1 v d → σ[i]? = some (some (.ref a)) → SPost κ W σ H1 G1 e1 (f d e1) D0 → r (.ref a) [v] H1 fun _ H2 => D0.nx σ H2) :
    tDrop (tBM κ.K "list" r (tVar i) (tCons (tI κ W R m) tNil)) D0 σ H := by
  obtain ⟨t0, l0, e0, g0, hq⟩ := sOwn_of hq
  obtain ⟨a, xs, h1, h2, h3, h4, h5⟩ := lst_at rp e0 g0
  refine ⟨_, h1, .inl ⟨rfl, xs, SqL.of h2⟩, ?_⟩
  exact sbind_post rp hq fun d e1 v H1 G1 em r1 rv f1 q1 => k d e1 v a H1 G1 r1 rv h1 q1
theorem s_appI {x : Str} {i : Nat} {apos cpos : Pos} (hK : X.K = κ.K) (hx : PE X (.Name x pos') (tVar i)) (he : PE X e (tI κ W (RP κ) m))
    (hs : swapsWith (.Call (.Attribute (.Name x pos') "append" apos) [e] [] cpos) none pos.line X.env = pure false := by rfl)
    (hbase : attributeBase (.Name x pos') "append" X.env (eval (.Name x pos') X.env) = eval (.Name x pos') X.env := by rfl)
    (hfew : ((backTo cpos (starEach [e] X.env)).all (fun x => !x.1) && (backToKw cpos (keywordEach [] X.env)).all (fun x => x.1.isSome)
      && decide (([e] : List Expr).length + ([] : List Keyword).length + (if ([] : List Keyword).isEmpty then 0 else 1) < 30)) = true := by rfl)
    (hline : (apos.endLine == cpos.line) = true := by rfl) (hst : starEach [e] X.env = (false, eval e X.env) :: starEach [] X.env := by rfl) (hplain : (backTo cpos (starEach [] X.env)).any (·.1) = false := by rfl) :
    PS X (.Expr (.Call (.Attribute (.Name x pos') "append" apos) [e] [] cpos) pos) (tS κ W (sApp i m)) :=
  PS.imp (ps_expr (pe_bm PySem.F.plainAttrs_list PySem.F.slot_list_append PySem.F.type_list_append mt_append hx (pa_cons he pa_nil hst) hbase hfew hline hst hplain) hs) fun D σ H ⟨G, env, r, q⟩ => by
    rw [hK]
    refine own_call r q fun d e1 v a H1 G1 r1 rv ha q1 => ?_
    obtain ⟨t, l, k, z, hl, hk, q1⟩ := chL_of q1
    by_cases hsz : l.length < szl
    · rw [if_pos hsz] at hk
      cases hk
      obtain ⟨b, ys, g1, g2, g3, _⟩ := lst_at r1 z hl
      rw [ha] at g1
      cases g1
      obtain ⟨G2, eg, rep, fr⟩ := r1.chg z hl ha (g3.append (.cons rv .nil))
      exact ⟨a, ys, v, rfl, rfl, g2, by rw [g3.length]; exact szl_lt (Nat.le_of_lt hsz), q1 σ _ G2 rep fr⟩
    · rw [if_neg hsz] at hk; cases hk
theorem s_app {x : Str} {i : Nat} {apos cpos : Pos} (hK : X.K = κ.K) (hx : PE X (.Name x pos') (tVar i)) (he : PE X e (tX κ W (RP κ) m))
    (hs : swapsWith (.Call (.Attribute (.Name x pos') "append" apos) [e] [] cpos) none pos.line X.env = pure false := by rfl)
    (hbase : attributeBase (.Name x pos') "append" X.env (eval (.Name x pos') X.env) = eval (.Name x pos') X.env := by rfl)
    (hfew : ((backTo cpos (starEach [e] X.env)).all (fun x => !x.1) && (backToKw cpos (keywordEach [] X.env)).all (fun x => x.1.isSome)
      && decide (([e] : List Expr).length + ([] : List Keyword).length + (if ([] : List Keyword).isEmpty then 0 else 1) < 30)) = true := by rfl)
    (hline : (apos.endLine == cpos.line) = true := by rfl) (hst : starEach [e] X.env = (false, eval e X.env) :: starEach [] X.env := by rfl) (hplain : (backTo cpos (starEach [] X.env)).any (·.1) = false := by rfl) :
    PS X (.Expr (.Call (.Attribute (.Name x pos') "append" apos) [e] [] cpos) pos) (tS κ W (sApp i m)) := s_appI hK hx (im he) hs hbase hfew hline hst hplain
theorem s_ext {x : Str} {i : Nat} {apos cpos : Pos} (hK : X.K = κ.K) (hx : PE X (.Name x pos') (tVar i)) (he : PE X e (tX κ W (RP κ) m))
    (hs : swapsWith (.Call (.Attribute (.Name x pos') "extend" apos) [e] [] cpos) none pos.line X.env = pure false := by rfl)
    (hbase : attributeBase (.Name x pos') "extend" X.env (eval (.Name x pos') X.env) = eval (.Name x pos') X.env := by rfl)
    (hfew : ((backTo cpos (starEach [e] X.env)).all (fun x => !x.1) && (backToKw cpos (keywordEach [] X.env)).all (fun x => x.1.isSome)
      && decide (([e] : List Expr).length + ([] : List Keyword).length + (if ([] : List Keyword).isEmpty then 0 else 1) < 30)) = true := by rfl)
    (hline : (apos.endLine == cpos.line) = true := by rfl) (hst : starEach [e] X.env = (false, eval e X.env) :: starEach [] X.env := by rfl) (hplain : (backTo cpos (starEach [] X.env)).any (·.1) = false := by rfl) :
    PS X (.Expr (.Call (.Attribute (.Name x pos') "extend" apos) [e] [] cpos) pos) (tS κ W (sExt i m)) :=
  PS.imp (ps_expr (pe_bm PySem.F.plainAttrs_list PySem.F.slot_list_extend PySem.F.type_list_extend mt_extend hx (pa_cons (im he) pa_nil hst) hbase hfew hline hst hplain) hs) fun D σ H ⟨G, env, r, q⟩ => by
    rw [hK]
    refine own_call r q fun d e1 v a H1 G1 r1 rv ha q1 => ?_
    cases d with
    | lst k =>
      obtain ⟨t, l, k2, z, hl, hk, q1⟩ := chL_of q1
      by_cases hsz : l.length + k.length ≤ szl
      · rw [if_pos hsz] at hk
        cases hk
        obtain ⟨b, ys, g1, g2, g3, _⟩ := lst_at r1 z hl
        rw [ha] at g1
        cases g1
        obtain ⟨c, zs, rfl, h5, h6⟩ := RBq.lst r1.sub.s (.inl rv)
        obtain ⟨G2, eg, rep, fr⟩ := r1.chg z hl ha (g3.append h6)
        exact ⟨a, c, ys, zs, rfl, rfl, g2, h5, by rw [g3.length, h6.length]; exact szl_le hsz, q1 σ _ G2 rep fr⟩
      · rw [if_neg hsz] at hk; cases hk
    | _ => exact q1.elim
theorem s_setI {x : Str} {i : Nat} {ei : Expr} (hx : PE X (.Name x pos') (tVar i)) (hi : PE X ei (tX κ W (RB κ) mj)) (he : PE X e (tX κ W (RP κ) m)) 
    (hg : PG X (.Subscript (.Name x pos') ei p2) (gSub (tVar i) (tI κ W (RB κ) mj) rSetL))
    (hs : swapsWithSole [.Subscript (.Name x pos') ei p2] e pos.line X.env = pure false := by rfl) (hw : swappedStores [.Subscript (.Name x pos') ei p2] e X.env = pure none := by rfl) :
    PS X (.Assign [.Subscript (.Name x pos') ei p2] e pos) (tS κ W (sSetI i mj m)) := PS.imp (ps_asg (im he) hg hs hw) fun D σ H ⟨G, env, r, q⟩ => by
  refine sbind_post r q fun d e1 v H1 G1 em r1 rv f1 q1 => ?_
  obtain ⟨t0, l0, e0, g0, q1⟩ := sOwn_of q1
  obtain ⟨a, xs, h1, h2, h3, _⟩ := lst_at r1 e0 g0
  refine ⟨_, h1, ?_⟩
  refine sbind_post r1 q1 fun j e2 u H2 G2 em2 r2 ru f2 q2 => ?_
  cases j with
  | int t =>
    obtain ⟨s, l, k2, z, hl, hk, q2⟩ := chL_of q2
    obtain ⟨b, ys, g1, g2, g3, _⟩ := lst_at r2 z hl
    rw [h1] at g1
    cases g1
    unfold opSetI at hk
    cases w2 : ixN l.length t with
    | none => rw [w2] at hk; cases hk
    | some n =>
      rw [w2] at hk
      cases hk
      obtain ⟨G3, eg, rep, fr⟩ := r2.chg z hl h1 (g3.set (rv.mono f2.gk) n)
      exact ⟨a, ys, t, n, rfl, RBq.int ru, g2, by rw [g3.length]; exact w2, q2 σ _ G3 rep fr⟩
  | _ => exact q2.elim
end
/-! ### several names -/
def setAll : List Nat → List D → En → Option En
  | [], [], e => some e
  | i :: is, d :: ds, e => if i < e.length then setAll is ds (e.set i (.sh d)) else none
  | _, _, _ => none
def gNames : List Nat → TGs
  | [] => gNil
  | i :: is => gCons (gName i) (gNames is)
/-- a target's reading serves its function -/
def TgOk (κ : Kx) (g : TG) (f : D → En → Option En) : Prop := ∀ (v : V) (d : D) (σ : L2.St) (H : Hp) (G : Gh) (env e1 : En) (Q : L2.St → Hp → Prop), f d env = some e1 → Rep κ H G σ env → Rp κ G v d → (∀ σ1 G1, Rep κ H G1 σ1 e1 → Fr H G σ env H G1 σ1 e1 → Q σ1 H) → g v σ H Q
section
variable {κ : Kx} {W : WX} {X : Cx}
theorem rep_sh {H : Hp} {G : Gh} {σ : L2.St} {env : En} {i : Nat} {v : V} {d : D} (r : Rep κ H G σ env) (hi : i < env.length) (h : Rp κ G v d) : ∃ G', G'.g = G.g ∧ Rep κ H G' (σ.set i (some v)) (env.set i (.sh d)) ∧ Fr H G σ env H G' (σ.set i (some v)) (env.set i (.sh d)) := by
  have re := r.re (s := .sh d) (F := []) (H' := H) (g' := G.g) (x := some v) hi r.sub (Same.refl _) ⟨rfl, v, rfl, h⟩ (fun _ _ _ _ _ _ _ h => h) (fun j a w ow => (r.own ow).2) fun a m => by cases m
  have fr := Fr.re (σ := σ) (H := H) (H' := H) (g' := G.g) (s := .sh d) (F := []) (x := some v) (List.getElem?_eq_getElem hi) (fun _ o h _ => ⟨o, h, fun _ => rfl⟩) (Same.refl _) (fun _ _ _ h _ => h) (fun q => by cases q) fun q => by cases q
  exact ⟨⟨G.g, (G.put i []).fp⟩, rfl, re, fr⟩
def tgN (i : Nat) : D → En → Option En := fun d e => if i < e.length then some (e.set i (.sh d)) else none
theorem tg_name (i : Nat) : TgOk κ (gName i) (tgN i) := fun v d σ H G env e1 Q e r h q => by
  unfold tgN at e
  by_cases hi : i < env.length
  · rw [if_pos hi] at e
    cases e
    obtain ⟨G1, _, a, b⟩ := rep_sh r hi h
    exact q _ G1 a b
  · rw [if_neg hi] at e; cases e
theorem tgs_names : ∀ (is : List Nat) (vs : List V) (ds : List D) (σ : L2.St) (H : Hp) (G : Gh) (env e1 : En) (Q : L2.St → Hp → Prop), setAll is ds env = some e1 → Rep κ H G σ env → RpA κ G vs ds → (∀ σ1 G1, Rep κ H G1 σ1 e1 → Fr H G σ env H G1 σ1 e1 → Q σ1 H) → gNames is vs σ H Q
  | [], vs, ds, σ, H, G, env, e1, Q, e, r, h, q => by
    cases h with
    | nil => cases e; exact ⟨rfl, q σ G r Fr.refl⟩
    | cons => cases e
  | i :: is, vs, ds, σ, H, G, env, e1, Q, e, r, h, q => by
    cases h with
    | nil => cases e
    | cons h t =>
      dsimp only [setAll] at e
      split at e
      · rename_i hi
        obtain ⟨G1, eg, a, b⟩ := rep_sh r hi h
        exact ⟨_, _, rfl, tgs_names is _ _ _ H G1 _ e1 Q e a (by rw [eg]; exact t) fun σ1 G2 r1 f1 => q σ1 G2 r1 (b.trans f1)⟩
      · cases e
def tgT (is : List Nat) : D → En → Option En := fun d e => match d with
  | .tup ds => setAll is ds e
  | _ => none
theorem setAll_len : ∀ {is : List Nat} {ds : List D} {e e1 : En}, setAll is ds e = some e1 → ds.length = is.length
  | [], [], _, _, _ => rfl
  | [], _ :: _, _, _, h => by cases h
  | _ :: _, [], _, _, h => by cases h
  | i :: is, d :: ds, e, e1, h => by
    dsimp only [setAll] at h
    split at h
    · rw [List.length_cons, List.length_cons, setAll_len h]
    · cases h
theorem tg_tup (is : List Nat) {n : Nat} (hn : n = is.length) : TgOk κ (gTup κ.K n (gNames is)) (tgT is) := fun v d σ H G env e1 Q e r h q => by
  subst hn
  cases h with
  | tup h t =>
    have e' : setAll is _ env = some e1 := e
    exact ⟨_, _, rfl, SqT.of (r.sub _ _ h), by rw [t.length, setAll_len e'], tgs_names is _ _ σ H G env e1 Q e' r t q⟩
  | _ => cases e
/-- target = value, any target -/
def sTg (f : D → En → Option En) (m : Sm D) : Ss := sbnd m fun d e => match f d e with
  | some e1 => some (.nx e1)
  | none => none
theorem s_tg {tg e : Expr} {g : TG} {f : D → En → Option En} {m : Sm D} {pos : Pos} (hg : PG X tg g) (hf : TgOk κ g f) (he : PE X e (tI κ W (RP κ) m)) (hs : swapsWithSole [tg] e pos.line X.env = pure false := by rfl) (hw : swappedStores [tg] e X.env = pure none := by rfl) (h1 : List.map (fun x => x.snd) (assignEach [tg] X.env) = [assign tg X.env] := by rfl) :
    PS X (.Assign [tg] e pos) (tS κ W (sTg f m)) := PS.imp (ps_asg he hg hs hw h1) fun D σ H ⟨G, env, r, q⟩ => sbind_post r q fun d e1 v H1 G1 em r1 rv f1 q1 => by
  cases z : f d e1 with
  | none => rw [z] at q1; exact q1.elim
  | some e2 =>
    rw [z] at q1
    exact hf v d σ H1 G1 e1 e2 _ z r1 rv fun σ1 G2 r2 f2 => q1 σ1 H1 G2 r2 f2
end

/-! ### loops -/
/-- an iterator gives these items, one after another -/
def Yields (κ : Kx) (J : It) (ds : List D) (H G : Hp) : Prop := ∀ i : Nat, (∀ d, ds[i]? = some d → J.go i H ∧ ∀ x H', J.yld i H x H' → (H' = H ∧ Rp κ G x d) ∨ ∃ (T : Addr) (xs : List V) (es : List D), H T = none ∧ H' = upd H T (.tup xs) ∧ x = .ref T ∧ d = .tup es ∧ RpA κ G xs es) ∧ (ds.length ≤ i → J.stop i H)
def RI (κ : Kx) : Rl (List D) It := fun _ _ H G env J ds => ∃ pr : Addr → Prop, (∀ a, pr a → ¬ Mt G env a) ∧ ∀ H' (G' : Hp), (∀ a o, pr a → H a = some o → nt o → H' a = some o) → Same G G' → Same G' H' → Yields κ J ds H' G'
instance {κ : Kx} : RlMono (RI κ) := ⟨fun _ q => q⟩
def forL (tg : D → En → Option En) (body : Ss) : List D → Ss
  | [], e => some (.nx e)
  | d :: ds, e => match tg d e with
    | none => none
    | some e1 => match body e1 with
      | some (.nx e2) => forL tg body ds e2
      | some (.ct e2) => forL tg body ds e2
      | some (.bk e2) => some (.nx e2)
      | o => o
def sFor (mi : Sm (List D)) (tg : D → En → Option En) (body : Ss) : Ss := sbnd mi fun ds => forL tg body ds
section
variable {X : Cx} {κ : Kx} {W : WX}
theorem s_for {tgt iter : Expr} {sts : List Stmt} {mi : Sm (List D)} {g : TG} {f : D → En → Option En} {m : Ss} {pos : Pos} (hp : PassesOwn (model X.prog X.w) X.A X.env X.xe) (hc : X.calm = true) (hi : PI X tgt iter (tX κ W (RI κ) mi)) (hg : PG X tgt g) (hf : TgOk κ g f) (hb : PSs X sts (tS κ W m))
    (hs : ∀ x, foldedSetIterable iter X.env x = pure x := by intro _; rfl) : PS X (.For tgt iter sts [] pos) (tS κ W (sFor mi f m)) := PS.imp (ps_for hp hc hi hg hb hs) fun D σ H ⟨G, env, r, q⟩ => by
  refine tI.pu (sbind_post r q fun ds e1 J H1 G1 em r1 rv f1 q1 => ?_)
  obtain ⟨pr, hpr, yl⟩ := rv
  refine ⟨fun i k σ' H' => k = ds.length - i ∧ i ≤ ds.length ∧ ∃ G' env', Rep κ H' G' σ' env' ∧ Fr H1 G1 σ e1 H' G' σ' env' ∧ SPost κ W σ' H' G' env' (forL f m (ds.drop i) env') D, ⟨ds.length, by simp, Nat.zero_le _, G1, e1, r1, Fr.refl, q1⟩, ?_⟩
  rintro i k σ2 H2 ⟨rfl, hi2, G2, env2, r2, fr2, q2⟩
  have y := yl H2 G2 (fun a o pa e n => fr2.at e (hpr a pa)) fr2.gk r2.sub i
  by_cases hlt : i < ds.length
  · right
    have ed : ds[i]? = some ds[i] := List.getElem?_eq_getElem hlt
    have dr : ds.drop i = ds[i] :: ds.drop (i + 1) := (List.drop_eq_getElem_cons hlt)
    obtain ⟨go, yy⟩ := y.1 _ ed
    refine ⟨go, fun σ' H' => ∃ G' env', Rep κ H' G' σ' env' ∧ Fr H1 G1 σ e1 H' G' σ' env' ∧ SPost κ W σ' H' G' env' (forL f m (ds.drop (i + 1)) env') D, fun σ' H' ⟨G', env', a, b, c⟩ => ⟨ds.length - (i + 1), by omega, rfl, hlt, G', env', a, b, c⟩, ?_⟩
    rw [dr] at q2
    dsimp only [forL] at q2
    intro x H3 hy
    cases z : f ds[i] env2 with
    | none => rw [z] at q2; exact q2.elim
    | some e3 =>
      rw [z] at q2
      dsimp only at q2
      -- the item stands in G3
      have item : ∃ G3 : Gh, Rep κ H3 G3 σ2 env2 ∧ Fr H2 G2 σ2 env2 H3 G3 σ2 env2 ∧ Rp κ G3 x ds[i] := by
        rcases yy x H3 hy with ⟨rfl, rx⟩ | ⟨T, xs, es, hT, rfl, rfl, e4, rx⟩
        · exact ⟨G2, r2, Fr.refl, rx⟩
        · have st := new_sh (o := .tup xs) r2 hT
          refine ⟨G2.up T (.tup xs), st.rep, st.fr, ?_⟩
          rw [e4]
          exact .tup upd_same (rx.mono (same_new (Same.none r2.sub hT)))
      obtain ⟨G3, r3, fr3, rx⟩ := item
      refine hf x ds[i] σ2 H3 G3 env2 e3 _ z r3 rx fun σ4 G4 r4 fr4 => ?_
      have frA := fr3.trans fr4
      refine ⟨G4, e3, r4, ?_⟩
      have q3 := SPost.shift frA q2
      cases w : m e3 with
      | none => rw [w] at q3; exact q3
      | some o => cases o with
        | nx e5 =>
          rw [w] at q3
          exact fun σ5 H5 G5 r5 fr5 => ⟨G5, e5, r5, (fr2.trans frA).trans fr5, SPost.shift fr5 q3⟩
        | ct e5 =>
          rw [w] at q3
          exact fun σ5 H5 G5 r5 fr5 => ⟨G5, e5, r5, (fr2.trans frA).trans fr5, SPost.shift fr5 q3⟩
        | bk e5 => rw [w] at q3; exact q3
        | rt r5 => rw [w] at q3; exact q3
        | rv r5 e5 => rw [w] at q3; exact q3
        | ex x5 e5 => rw [w] at q3; exact q3
  · left
    have e : i = ds.length := by omega
    subst e
    refine ⟨y.2 (Nat.le_refl _), ?_⟩
    rw [List.drop_length] at q2
    exact q2 σ2 H2 G2 r2 Fr.refl
/-- while: at most n turns -/
def whL (n : Nat) (t : Sm Bool) (body : Ss) : Ss := match n with
  | 0 => fun _ => none
  | n + 1 => sbnd t fun b e => match b with
    | false => some (.nx e)
    | true => match body e with
      | some (.nx e2) => whL n t body e2
      | some (.ct e2) => whL n t body e2
      | some (.bk e2) => some (.nx e2)
      | o => o
theorem s_while {c : Expr} {sts : List Stmt} {t : Sm Bool} {m : Ss} {pos : Pos} (n : Nat) (hp : PassesOwn (model X.prog X.w) X.A X.env X.xe) (hc : PT X c (tX κ W RT t)) (hb : PSs X sts (tS κ W m)) : PS X (.While c sts [] pos) (tS κ W (whL n t m)) := PS.imp (ps_while hp (im_t hc) hb) fun D σ H ⟨G, env, r, q⟩ => by
  refine ⟨fun k σ' H' => ∃ G' env', Rep κ H' G' σ' env' ∧ SPost κ W σ' H' G' env' (whL k t m env') D, ⟨n, G, env, r, q⟩, ?_⟩
  rintro k σ2 H2 ⟨G2, env2, r2, q2⟩
  cases k with
  | zero => exact q2.elim
  | succ k =>
    dsimp only [whL] at q2
    refine sbind_post r2 q2 fun b e3 v H3 G3 em r3 rv f3 q3 => ?_
    cases rv
    cases b with
    | false => exact q3 σ2 H3 G3 r3 Fr.refl
    | true =>
      rw [if_pos rfl]
      dsimp only at q3
      refine ⟨fun σ' H' => ∃ G' env', Rep κ H' G' σ' env' ∧ SPost κ W σ' H' G' env' (whL k t m env') D, fun σ' H' h => ⟨k, Nat.lt_succ_self k, h⟩, G3, e3, r3, ?_⟩
      cases w : m e3 with
      | none => rw [w] at q3; exact q3
      | some o => cases o with
        | nx e5 =>
          rw [w] at q3
          exact fun σ5 H5 G5 r5 fr5 => ⟨G5, e5, r5, SPost.shift fr5 q3⟩
        | ct e5 =>
          rw [w] at q3
          exact fun σ5 H5 G5 r5 fr5 => ⟨G5, e5, r5, SPost.shift fr5 q3⟩
        | bk e5 => rw [w] at q3; exact q3
        | rt r5 => rw [w] at q3; exact q3
        | rv r5 e5 => rw [w] at q3; exact q3
        | ex x5 e5 => rw [w] at q3; exact q3
end
/-! ### what is walked -/
/-- a list that stays while it is walked -/
def RL (κ : Kx) : Rl (List D) V := fun _ _ H G env v l => ∃ a xs, v = .ref a ∧ H a = some (.lst xs) ∧ RpA κ G xs l ∧ (G.g a = some (.lst xs) ∨ ¬ Mt G env a)
instance {κ : Kx} : RlMono (RL κ) := ⟨fun _ q => q⟩
def RLs (κ : Kx) : Rl (List D) (List V) := fun σ N H G env vs l => ∃ v, vs = [v] ∧ RL κ σ N H G env v l
instance {κ : Kx} : RlMono (RLs κ) := ⟨fun _ q => q⟩
def eIt (i : Nat) : Sm (List D) := fun env => match env[i]? with
  | some (.sh (.lst l)) => some (.ok l env)
  | some (.lk l) => some (.ok l env)
  | some (.bo l) => some (.ok l env)
  | _ => none
def fIt (m : Sm D) : Sm (List D) := bnd m fun d e => match d with
  | .lst l => some (.ok l e)
  | _ => none
section
variable {X : Cx} {κ : Kx} {W : WX} {a b e tg : Expr} {mi mj : Sm (List D)} {m : Sm D} {ms : Sm (List D)} {pos p : Pos}
theorem l_name {i : Nat} {x : Str} (h : PE X (.Name x pos) (tVar i)) : PE X (.Name x pos) (tX κ W (RL κ) (eIt i)) := PE.imp h fun σ H Q ⟨G, env, r, q⟩ => by
  unfold eIt at q
  cases z : env[i]? with
  | none => rw [z] at q; exact q.elim
  | some s =>
    have rs := r.slot i s z
    rw [z] at q
    cases s with
    | sh d =>
      cases d with
      | lst l =>
        obtain ⟨_, v, h1, h2⟩ := rs
        cases h2 with
        | lst h3 h4 => exact ⟨_, h1, q _ H G r ⟨_, _, rfl, r.sub _ _ h3, h4, .inl h3⟩ (Grw.refl _) Fr.refl⟩
      | _ => exact q.elim
    | lk l =>
      obtain ⟨v, h1, ro⟩ := rs
      obtain ⟨c, xs, rfl, h0, h2, h3, h4⟩ := ro.ls_inv
      refine ⟨_, h1, q _ H G r ⟨c, xs, rfl, h2, h4, .inr fun mt => ?_⟩ (Grw.refl _) Fr.refl⟩
      obtain ⟨j, t, e2, hm, m⟩ := mt
      have w := r.inj i j c t ⟨_, _, z, rfl, by rw [h0]; exact List.mem_singleton_self c⟩ e2 m
      subst w
      rw [z] at e2
      cases e2
      cases hm
    | bo l =>
      obtain ⟨c, xs, h1, h2, h4, h0⟩ := rs
      refine ⟨_, h1, q _ H G r ⟨c, xs, rfl, h2, h4, .inr fun mt => ?_⟩ (Grw.refl _) Fr.refl⟩
      obtain ⟨j, t, e2, hm, m⟩ := mt
      obtain ⟨o, ht⟩ := mut_th hm
      have w := r.inj j i c _ ⟨t, o, e2, ht, m⟩ z (by rw [h0]; exact List.mem_singleton_self c)
      subst w
      rw [z] at e2
      cases e2
      cases hm
    | _ => exact q.elim
theorem l_of (h : PE X e (tX κ W (RP κ) m)) : PE X e (tX κ W (RL κ) (fIt m)) := PE.imp h fun σ H Q ⟨G, env, r, q⟩ => bind_post r q fun d e1 v H1 G1 em r1 rv s1 f1 q1 => by
  cases d with
  | lst l =>
    cases rv with
    | lst h3 h4 => exact q1 _ H1 G1 r1 ⟨_, _, rfl, r1.sub _ _ h3, h4, .inl h3⟩ (Grw.refl _) Fr.refl
  | _ => exact q1.elim
theorem l_arg (h : PE X e (tX κ W (RL κ) mi)) (hs : starEach [e] X.env = (false, eval e X.env) :: starEach [] X.env := by rfl) : PA X [e] (tX κ W (RLs κ) mi) := PA.imp (pa_cons h pa_nil hs) fun σ H Q ⟨G, env, r, q⟩ => by
  refine ⟨G, env, r, ?_⟩
  cases z : mi env with
  | none => rw [z] at q; exact q
  | some o => cases o with
    | ok l e1 => rw [z] at q; exact fun v H1 G1 r1 rv s1 f1 => q [v] H1 G1 r1 ⟨v, rfl, rv⟩ s1 f1
    | ex x e1 => rw [z] at q; exact q
/-- the items of a list that stays -/
theorem list_yields {J : It} {σ : L2.St} {N : Addr → Prop} {H : Hp} {G : Gh} {env : En} {v : V} {l ds : List D} (r : Rep κ H G σ env) (h : RL κ σ N H G env v l)
    (k : ∀ a xs, v = .ref a → ∀ H' (G' : Hp), H' a = some (.lst xs) → RpA κ G' xs l → Yields κ J ds H' G') : RI κ σ N H G env J ds := by
  obtain ⟨a, xs, rfl, h1, h2, h3⟩ := h
  refine ⟨fun b => b = a ∧ ¬ Mt G env a, fun b hb => hb.1 ▸ hb.2, fun H' G' hp sg sh => k a xs rfl H' G' ?_ (h2.mono sg)⟩
  rcases h3 with h3 | h3
  · exact sh _ _ (sg _ _ h3)
  · exact hp a _ ⟨rfl, h3⟩ h1 fun _ z => nomatch z
theorem sq_inj {H : Hp} {K : PySem.W.Frag} {a : Addr} {xs : List V} (h : H a = some (.lst xs)) : SqL K H a xs := SqL.of h
theorem i_list (h : PE X e (tX κ W (RL κ) mi)) : PI X tg e (tX κ W (RI κ) mi) := ⟨fun pins s σ H R I ⟨G, env, r, q⟩ => (pi_list h).run pins s σ H R I ⟨G, env, r, by
  cases z : mi env with
  | none => rw [z] at q; exact q
  | some o => cases o with
    | ex x e1 => rw [z] at q; exact q
    | ok l e1 =>
      rw [z] at q
      intro v H1 G1 r1 rv s1 f1
      obtain ⟨a, xs, rfl, h1, h2, h3⟩ := id rv
      refine ⟨a, rfl, ⟨xs, SqL.of h1⟩, q _ H1 G1 r1 (list_yields r1 rv fun a' ys ea H' G' hl ha i => ?_) s1 f1⟩
      cases ea
      refine ⟨fun d hd => ?_, fun hi => ⟨ys, SqL.of hl, by rw [ha.length]; exact hi⟩⟩
      obtain ⟨x, hx, rx⟩ := ha.getD hd
      exact ⟨⟨ys, x, SqL.of hl, hx⟩, fun y H2 ⟨e2, hy⟩ => .inl ⟨e2, by
        have := hy ys (SqL.of hl)
        rw [hx] at this
        cases this
        exact rx⟩⟩⟩⟩
/-- the signs of a text -/
def fSg (m : Sm D) : Sm (List D) := bnd m fun d e => match d with
  | .str w => some (.ok (w.map fun c => .str [c]) e)
  | _ => none
theorem i_str (h : PE X e (tX κ W (RB κ) m)) : PI X tg e (tX κ W (RI κ) (fSg m)) := ⟨fun pins s σ H R I ⟨G, env, r, q⟩ => (pi_str h).run pins s σ H R I (bind_post r q fun d e1 v H1 G1 em r1 rv s1 f1 q1 => by
  cases d with
  | str w =>
    refine ⟨S w, RBq.str rv, q1 _ H1 G1 r1 ⟨fun _ => False, fun _ z => z.elim, fun H' G' _ _ _ i => ?_⟩ (Grw.refl _) Fr.refl⟩
    have ez : (S w).cps.size = w.length := S_len w
    refine ⟨fun d hd => ?_, fun hi => ?_⟩
    · rw [List.getElem?_map] at hd
      cases hw : w[i]? with
      | none => rw [hw] at hd; cases hd
      | some c =>
        rw [hw] at hd
        cases hd
        have hi : i < w.length := (List.getElem?_eq_some_iff.mp hw).1
        refine ⟨show i < (S w).cps.size by rw [ez]; exact hi, fun y H2 ⟨e2, c', hc, ey⟩ => .inl ⟨e2, ?_⟩⟩
        have hc' : w[i]? = some c' := by
          have : (S w).cps[i]? = w[i]? := by simp [S]
          rw [← this]; exact hc
        rw [hw] at hc'
        cases hc'
        rw [ey]
        exact .str [c]
    · show (S w).cps.size ≤ i
      rw [ez]
      simpa using hi
  | _ => exact q1.elim)⟩
/-- a tuple's items -/
def fTp (m : Sm D) : Sm (List D) := bnd m fun d e => match d with
  | .tup l => some (.ok l e)
  | _ => none
theorem i_tup (h : PE X e (tX κ W (RP κ) m)) : PI X tg e (tX κ W (RI κ) (fTp m)) := ⟨fun pins s σ H R I ⟨G, env, r, q⟩ => (pi_tup h).run pins s σ H R I (bind_post r q fun d e1 v H1 G1 em r1 rv s1 f1 q1 => by
  cases d with
  | tup l =>
    cases rv with
    | tup h3 h4 =>
      rename_i a xs
      refine ⟨a, rfl, ⟨xs, SqT.of (r1.sub _ _ h3)⟩, q1 _ H1 G1 r1 ⟨fun _ => False, fun _ z => z.elim, fun H' G' _ sg sh i => ?_⟩ (Grw.refl _) Fr.refl⟩
      have hl := SqT.of (K := X.K) (sh _ _ (sg _ _ h3))
      have ha := h4.mono sg
      refine ⟨fun d hd => ?_, fun hi => ⟨xs, hl, by rw [ha.length]; exact hi⟩⟩
      obtain ⟨x, hx, rx⟩ := ha.getD hd
      exact ⟨⟨xs, x, hl, hx⟩, fun y H2 ⟨e2, hy⟩ => .inl ⟨e2, by
        have := hy xs hl
        rw [hx] at this
        cases this
        exact rx⟩⟩
  | _ => exact q1.elim)⟩
def rng (lo : Int) (n : Nat) : List D := (List.range n).map fun (k : Nat) => D.int (lo + (k : Int))
def fRg1 (m : Sm (List D)) : Sm (List D) := bnd m fun ds e => match ds with
  | [.int j] => if j ≤ 1000000 ∧ -1000000 ≤ j then some (.ok (rng 0 j.toNat) e) else none
  | _ => none
def fRg2 (m : Sm (List D)) : Sm (List D) := bnd m fun ds e => match ds with
  | [.int i, .int j] => if (j ≤ 1000000 ∧ -1000000 ≤ j) ∧ i ≤ 1000000 ∧ -1000000 ≤ i then some (.ok (rng i (j - i).toNat) e) else none
  | _ => none
theorem rng_yields {lo : Int} {n : Nat} {σ : L2.St} {N : Addr → Prop} {H : Hp} {G : Gh} {env : En} : RI κ σ N H G env (Itr lo n) (rng lo n) := by
  refine ⟨fun _ => False, fun _ z => z.elim, fun H' G' _ _ _ i => ⟨fun d hd => ?_, fun hi => ?_⟩⟩
  · unfold rng at hd
    rw [List.getElem?_map] at hd
    cases hw : (List.range n)[i]? with
    | none => rw [hw] at hd; cases hd
    | some k =>
      rw [hw] at hd
      cases hd
      obtain ⟨hi, ek⟩ := List.getElem?_eq_some_iff.mp hw
      rw [List.getElem_range] at ek
      subst ek
      exact ⟨show i < n by simpa using hi, fun y H2 ⟨e2, ey⟩ => .inl ⟨e2, by rw [ey]; exact .int _⟩⟩
  · show n ≤ i
    unfold rng at hi
    simpa using hi
theorem i_rg1 {ml : List Bool} (hml : ml = [true]) (hg : Gl X "range") (hm : X.mg "range" = none) (h : PA X [a] (tX κ W (RA κ ml) ms)) (hs : starEach [a] X.env = [(false, eval a X.env)] := by rfl) : PI X tg (.Call (.Name "range" p) [a] [] pos) (tX κ W (RI κ) (fRg1 ms)) := ⟨fun pins s σ H R I ⟨G, env, r, q⟩ => (pi_range1 hg hm h hs).run pins s σ H R I (bind_post r q fun d e1 v H1 G1 em r1 rv s1 f1 q1 => by
  subst hml
  cases d with
  | nil => exact q1.elim
  | cons d t =>
    cases t with
    | cons _ _ => cases d <;> exact q1.elim
    | nil =>
      obtain ⟨u, rfl, ru⟩ := RBs.one rv
      cases d with
      | int j =>
        dsimp only at q1
        by_cases hj : j ≤ 1000000 ∧ -1000000 ≤ j
        · rw [if_pos hj] at q1
          exact ⟨j, by rw [ru.int], by omega, by omega, q1 _ H1 G1 r1 rng_yields (Grw.refl _) Fr.refl⟩
        · rw [if_neg hj] at q1; exact q1.elim
      | _ => exact q1.elim)⟩
theorem i_rg2 {ml : List Bool} (hml : ml = [true, true]) (hg : Gl X "range") (hm : X.mg "range" = none) (h : PA X [a, b] (tX κ W (RA κ ml) ms)) (hs : starEach [a, b] X.env = [(false, eval a X.env), (false, eval b X.env)] := by rfl) (hs2 : starEach [b] X.env = [(false, eval b X.env)] := by rfl) :
    PI X tg (.Call (.Name "range" p) [a, b] [] pos) (tX κ W (RI κ) (fRg2 ms)) := ⟨fun pins s σ H R I ⟨G, env, r, q⟩ => (pi_range2 hg hm h hs hs2).run pins s σ H R I (bind_post r q fun d e1 v H1 G1 em r1 rv s1 f1 q1 => by
  subst hml
  have cases2 : ∃ i j, d = [.int i, .int j] := by
    revert q1
    rcases d with _ | ⟨x, _ | ⟨y, _ | ⟨z, t⟩⟩⟩
    · exact fun q => q.elim
    · cases x <;> exact fun q => q.elim
    · cases x <;> cases y <;> first
        | exact fun q => q.elim
        | exact fun _ => ⟨_, _, rfl⟩
    · cases x <;> cases y <;> exact fun q => q.elim
  obtain ⟨i, j, rfl⟩ := cases2
  obtain ⟨u, w, rfl, ru, rw'⟩ := RBs.two rv
  dsimp only at q1
  by_cases hj : (j ≤ 1000000 ∧ -1000000 ≤ j) ∧ i ≤ 1000000 ∧ -1000000 ≤ i
  · rw [if_pos hj] at q1
    exact ⟨i, j, by rw [ru.int, rw'.int], ⟨by omega, by omega, by omega, by omega⟩, q1 _ H1 G1 r1 rng_yields (Grw.refl _) Fr.refl⟩
  · rw [if_neg hj] at q1; exact q1.elim)⟩
/-- number and item -/
def enumL (l : List D) : List D := (l.zipIdx).map fun p => .tup [.int (p.2 : Int), p.1]
def fEn (m : Sm (List D)) : Sm (List D) := bnd m fun l e => some (.ok (enumL l) e)
theorem i_enum {elts : List Expr} {kk : Nat} {tpos : Pos} (hg : Gl X "enumerate") (hm : X.mg "enumerate" = none) (h : PE X a (tX κ W (RL κ) mi)) (hs : starEach [a] X.env = [(false, eval a X.env)] := by rfl) :
    PI X (.Tuple elts kk tpos) (.Call (.Name "enumerate" p) [a] [] pos) (tX κ W (RI κ) (fEn mi)) := ⟨fun pins s σ H R I ⟨G, env, r, q⟩ => (pi_enum hg hm (l_arg h hs) hs).run pins s σ H R I (bind_post r q fun l e1 vs H1 G1 em r1 rv s1 f1 q1 => by
  obtain ⟨v, rfl, rv⟩ := rv
  obtain ⟨a, xs, rfl, h1, h2, h3⟩ := id rv
  refine ⟨a, xs, rfl, SqL.of h1, q1 _ H1 G1 r1 (list_yields r1 rv fun a' ys ea H' G' hl ha i => ?_) (Grw.refl _) Fr.refl⟩
  cases ea
  unfold enumL
  refine ⟨fun d hd => ?_, fun hi => ⟨ys, SqL.of hl, by rw [ha.length]; simpa using hi⟩⟩
  rw [List.getElem?_map, List.getElem?_zipIdx] at hd
  cases hw : l[i]? with
  | none => rw [hw] at hd; cases hd
  | some d0 =>
    rw [hw] at hd
    cases hd
    obtain ⟨x, hx, rx⟩ := ha.getD hw
    refine ⟨⟨ys, x, SqL.of hl, hx⟩, fun y H2 ⟨T, x', ey, hT, e2, hy⟩ => .inr ⟨T, _, _, hT, e2, ey, rfl, ?_⟩⟩
    have := hy ys (SqL.of hl)
    rw [hx] at this
    cases this
    have e0 : (0 + i : Nat) = i := Nat.zero_add i
    simp only [e0]
    exact .cons (.int _) (.cons rx .nil))⟩
def fRev (m : Sm (List D)) : Sm (List D) := bnd m fun l e => some (.ok l.reverse e)
theorem i_rev (hg : Gl X "reversed") (hm : X.mg "reversed" = none) (h : PE X a (tX κ W (RL κ) mi)) (hs : starEach [a] X.env = [(false, eval a X.env)] := by rfl) :
    PI X tg (.Call (.Name "reversed" p) [a] [] pos) (tX κ W (RI κ) (fRev mi)) := ⟨fun pins s σ H R I ⟨G, env, r, q⟩ => (pi_reversed hg hm (l_arg h hs) hs).run pins s σ H R I (bind_post r q fun l e1 vs H1 G1 em r1 rv s1 f1 q1 => by
  obtain ⟨v, rfl, rv⟩ := rv
  obtain ⟨a, xs, rfl, h1, h2, h3⟩ := id rv
  have elen := h2.length
  refine ⟨a, xs, rfl, SqL.of h1, q1 _ H1 G1 r1 (list_yields r1 rv fun a' ys ea H' G' hl ha i => ?_) (Grw.refl _) Fr.refl⟩
  cases ea
  refine ⟨fun d hd => ?_, fun hi => ?_⟩
  · have hi : i < l.length := by
      have := (List.getElem?_eq_some_iff.mp hd).1
      simpa using this
    rw [List.getElem?_reverse hi] at hd
    obtain ⟨x, hx, rx⟩ := ha.getD hd
    rw [← elen] at hx
    refine ⟨⟨by omega, ys, x, SqL.of hl, hx⟩, fun y H2 ⟨e2, hy⟩ => .inl ⟨e2, ?_⟩⟩
    have := hy ys (SqL.of hl)
    rw [hx] at this
    cases this
    exact rx
  · show xs.length ≤ i
    rw [elen]
    simpa using hi)⟩
end
/-! ### a loop over an own list locks it -/
def unlk (i : Nat) (e : En) : En := match e[i]? with
  | some (.lk l) => e.set i (.ow l)
  | _ => e
def sLock (i : Nat) (s : Ss) : Ss := fun e => match e[i]? with
  | some (.ow l) => match s (e.set i (.lk l)) with
    | some (.nx e1) => some (.nx (unlk i e1))
    | some (.bk e1) => some (.bk (unlk i e1))
    | some (.ct e1) => some (.ct (unlk i e1))
    | some (.ex x e1) => some (.ex x (unlk i e1))
    | some (.rv r e1) => some (.rv r (unlk i e1))
    | o => o
  | _ => s e
section
variable {X : Cx} {κ : Kx} {W : WX} {H H' : Hp} {G G' : Gh} {σ σ' : L2.St} {env env' : En} {i : Nat} {l : List D}
theorem Rep.swap {s t : Sl} (r : Rep κ H G σ env) (e : env[i]? = some s) {o : O} (hs : s.th = some o) (ht : t.th = some o) : Rep κ H G σ (env.set i t) := by
  have back : ∀ {j : Nat} {a : Addr}, Own G (env.set i t) j a → Own G env j a := fun {j a} ⟨u, o', e', t', m⟩ => by
    rcases set_look e' with ⟨rfl, rfl⟩ | ⟨w, e2⟩
    · exact ⟨s, o, e, hs, m⟩
    · exact ⟨u, o', e2, t', m⟩
  refine ⟨r.sub, by rw [List.length_set]; exact r.len, fun j u q => ?_, fun j k a u ow q m => ?_⟩
  · rcases set_look q with ⟨rfl, rfl⟩ | ⟨w, e2⟩
    · obtain ⟨x, h1, h2⟩ := (r.slot j s e).th hs
      exact .of ht h1 h2
    · exact r.slot j u e2
  · rcases set_look q with ⟨rfl, rfl⟩ | ⟨w, e2⟩
    · exact r.inj j k a s (back ow) e m
    · exact r.inj j k a u (back ow) e2 m
theorem Rep.locked (r : Rep κ H G σ env) (e : env[i]? = some (.ow l)) : Rep κ H G σ (env.set i (.lk l)) := r.swap e rfl rfl
theorem lock_mt {a : Addr} (m : Mt G (env.set i (.lk l)) a) : Mt G env a := by
  obtain ⟨j, s, e, h, m⟩ := m
  rcases set_look e with ⟨rfl, rfl⟩ | ⟨w, e2⟩
  · cases h
  · exact ⟨j, s, e2, h, m⟩
theorem unlk_cases : (∃ l, env[i]? = some (.lk l) ∧ unlk i env = env.set i (.ow l)) ∨ unlk i env = env := by
  unfold unlk
  split
  · rename_i l e; exact .inl ⟨l, e, rfl⟩
  · exact .inr rfl
theorem Rep.unlocked (r : Rep κ H G σ env) : Rep κ H G σ (unlk i env) := by
  rcases unlk_cases (i := i) (env := env) with ⟨l, e, q⟩ | q
  · rw [q]; exact r.swap e rfl rfl
  · rw [q]; exact r
theorem Fr.unlocked (e : env[i]? = some (.ow l)) (f : Fr H G σ (env.set i (.lk l)) H' G' σ' env') : Fr H G σ env H' G' σ' (unlk i env') where
  hk := fun a o h n => f.hk a o h fun m => n (lock_mt m)
  gk := f.gk
  gn := fun a o h g n => f.gn a o h g fun m => n (lock_mt m)
  mm := fun a o h m => by
    have hi : i < env.length := (List.getElem?_eq_some_iff.mp e).1
    rcases unlk_cases (i := i) (env := env') with ⟨l', e3, q⟩ | q
    · rw [q] at m
      obtain ⟨j, s, e1, hm, m⟩ := m
      rcases set_look e1 with ⟨rfl, rfl⟩ | ⟨w, e2⟩
      · obtain ⟨s0, h0, w0, _, ef⟩ := f.lk j (.lk l') rfl e3
        have w0 : s0 = .lk l' := w0
        refine ⟨j, _, e, rfl, ?_⟩
        rw [← ef w0 rfl]
        exact m
      · exact lock_mt (f.mm a o h ⟨j, s, e2, hm, m⟩)
    · rw [q] at m
      exact lock_mt (f.mm a o h m)
  lk := fun j t hf q => by
    have hi : i < env.length := (List.getElem?_eq_some_iff.mp e).1
    have q' : env'[j]? = some t ∧ i ≠ j := by
      rcases unlk_cases (i := i) (env := env') with ⟨l', e3, z⟩ | z
      · rw [z] at q
        rcases set_look q with ⟨rfl, rfl⟩ | ⟨w, e2⟩
        · cases hf
        · exact ⟨e2, w⟩
      · rw [z] at q
        refine ⟨q, fun w => ?_⟩
        subst w
        obtain ⟨s0, h0, w0, _⟩ := f.lk i t hf q
        rw [List.getElem?_set_self hi] at h0
        cases h0
        cases t with
        | lk l' =>
          have z2 : unlk i env' = env'.set i (.ow l') := by unfold unlk; rw [q]
          rw [z2] at z
          have : (env'.set i (.ow l'))[i]? = some (.ow l') := List.getElem?_set_self (List.getElem?_eq_some_iff.mp q).1
          rw [z, q] at this
          cases this
        | io o => obtain ⟨o', w0⟩ := w0; cases w0
        | bo l' => cases w0
        | _ => cases hf
    obtain ⟨s0, h0, w0, es, ef⟩ := f.lk j t hf q'.1
    rw [List.getElem?_set_ne q'.2] at h0
    exact ⟨s0, h0, w0, es, ef⟩
theorem unlk_fre {a : Addr} (f : Fre G env a) : Fre G (unlk i env) a := fun j s e m => by
  rcases unlk_cases (i := i) (env := env) with ⟨l', e3, q⟩ | q
  · rw [q] at e
    rcases set_look e with ⟨rfl, rfl⟩ | ⟨w, e2⟩
    · exact f j _ e3 m
    · exact f j s e2 m
  · rw [q] at e
    exact f j s e m
theorem lock_nw {a : Addr} {l : List D} (n : Nw H G (env.set i (.lk l)) a) : Nw H G env a := fun o h => lock_mt (n o h)
theorem rv_unlk {N N' : Addr → Prop} {v : V} {z : Rs} (h : ∀ c, N c → N' c) (rv : RV κ σ N H G env v z) : RV κ σ N' H G (unlk i env) v z := by
  cases z with
  | sh d => exact rv
  | ow l' =>
    obtain ⟨a, xs, h1, h2, h3, h4, h5, h6⟩ := rv
    exact ⟨a, xs, h1, h2, h3, h4, unlk_fre h5, h _ h6⟩
  | tr o =>
    obtain ⟨F, h1, h2⟩ := rv
    exact ⟨F, h1, fun a m => ⟨unlk_fre (h2 a m).1, h _ (h2 a m).2⟩⟩
theorem s_lock {st : Stmt} {m : Ss} {i : Nat} (h : PS X st (tS κ W m)) : PS X st (tS κ W (sLock i m)) := PS.imp h fun D σ H ⟨G, env, r, q⟩ => by
  unfold sLock at q
  split at q
  · rename_i l e
    refine ⟨G, _, r.locked e, ?_⟩
    cases w : m (env.set i (.lk l)) with
    | none => rw [w] at q; exact q
    | some o => cases o with
      | nx e1 => rw [w] at q; exact fun σ' H' G' r' f => q σ' H' G' r'.unlocked (f.unlocked e)
      | bk e1 => rw [w] at q; exact fun σ' H' G' r' f => q σ' H' G' r'.unlocked (f.unlocked e)
      | ct e1 => rw [w] at q; exact fun σ' H' G' r' f => q σ' H' G' r'.unlocked (f.unlocked e)
      | ex x e1 => rw [w] at q; exact fun c d σ' H' G' r' xr f => q c d σ' H' G' r'.unlocked xr (f.unlocked e)
      | rt z => rw [w] at q; exact fun v H' G' s rr f => q v H' G' s (rr.mono fun c n => lock_nw n) ⟨fun a o h n => f.hk a o h fun m => n (lock_mt m), f.gk, fun a o h g n => f.gn a o h g fun m => n (lock_mt m)⟩
      | rv z e1 => rw [w] at q; exact fun v σ' H' G' r' rv f => q v σ' H' G' r'.unlocked (rv_unlk (fun c n => lock_nw n) rv) (f.unlocked e)
  · exact ⟨G, env, r, q⟩
end

/-! ### methods of texts -/
def fM1 (f : List Nat → D → Option Rs) (mo me : Sm D) : Sm Rs := bnd mo fun x => match x with
  | .str w => bnd me fun y e => match f w y with
    | some z => some (.ok z e)
    | none => none
  | _ => fun _ => none
section
variable {X : Cx} {κ : Kx} {W : WX} {o e e2 : Expr} {mo me me2 : Sm D} {pos apos : Pos}
/-- a text's method, one argument -/
theorem v_m1 {id : String} {name : Str} {r : V → List V → Hp → VK → Prop} {f : List Nat → D → Option Rs} (slot : Slot "str" name id) (ty : typeOf (.builtin id) = pure (.type "method_descriptor")) (rule : MtR X id r) (hs : ∀ (W : WX) (σ : L2.St) (w : List Nat) (y : V) (dy : D) (z : Rs) (H : Hp) (G : Gh) (env : En) (Q : VK), f w dy = some z → Rep κ H G σ env → RBq κ H G y dy → EPost κ W (RV κ) σ H G env (some (.ok z env)) Q → r (.str (S w)) [y] H Q)
    (ho : PE X o (tX κ W (RB κ) mo)) (he : PE X e (tX κ W (RB κ) me)) (hst : starEach [e] X.env = [(false, eval e X.env)] := by rfl) (hbase : attributeBase o name X.env (eval o X.env) = eval o X.env := by rfl) (hline : (apos.endLine == pos.line) = true := by rfl) :
    PE X (.Call (.Attribute o name apos) [e] [] pos) (tX κ W (RV κ) (fM1 f mo me)) := PE.imp (pe_m1 slot ty rule ho he hst hbase hline) fun σ H Q ⟨G, env, rp, q⟩ => by
  refine bind_post rp q fun dx e1 x H1 G1 _ rp1 rx s1 f1 q1 => ?_
  cases dx with
  | str w =>
    refine ⟨⟨S w, RBq.str rx⟩, ?_⟩
    refine bind_post rp1 q1 fun dy e2 y H2 G2 _ rp2 ry s2 f2 q3 => ?_
    cases z : f w dy with
    | none => rw [z] at q3; exact q3.elim
    | some u =>
      rw [z] at q3
      rw [RBq.str rx]
      exact hs W σ w y dy u H2 G2 e2 Q z rp2 ry q3
  | _ => exact q1.elim
end
def opFind : List Nat → D → Option Rs
  | a, .str b => some (.sh (.int (Txt.find (S a) (S b))))
  | _, _ => none
def opStarts : List Nat → D → Option Rs
  | a, .str b => some (.sh (.bl (Txt.startswith (S a) (S b))))
  | _, _ => none
def opSplit : List Nat → D → Option Rs
  | a, .str b => if b.length ≠ 0 ∧ a.length ≤ szl then some (.ow ((Txt.split (S a) (S b)).map fun x => .str x.cps.toList)) else none
  | _, _ => none
def opPart : List Nat → D → Option Rs
  | a, .str b => if b.length ≠ 0 ∧ a.length ≤ szl then some (.sh (.tup [.str (Txt.partition (S a) (S b)).1.cps.toList, .str (Txt.partition (S a) (S b)).2.1.cps.toList, .str (Txt.partition (S a) (S b)).2.2.cps.toList])) else none
  | _, _ => none
def allStrs : List D → Option (List (List Nat))
  | [] => some []
  | .str w :: r => match allStrs r with
    | some l => some (w :: l)
    | none => none
  | _ :: _ => none
theorem allStrs_of : ∀ {l : List D} {ns : List (List Nat)}, allStrs l = some ns → l = ns.map D.str
  | [], _, e => by cases e; rfl
  | d :: r, ns, e => by
    cases d <;> try (cases e; done)
    rename_i i
    dsimp only [allStrs] at e
    cases h : allStrs r with
    | none => rw [h] at e; cases e
    | some l =>
      rw [h] at e
      cases e
      rw [allStrs_of h]
      rfl
theorem RpA.ofStrs {κ : Kx} {G : Hp} : ∀ {ns : List (List Nat)} {xs : List V}, RpA κ G xs (ns.map D.str) → xs = (ns.map S).map V.str
  | [], _, .nil => rfl
  | n :: r, _, .cons (.str _) t => by rw [RpA.ofStrs t]; rfl
def opJoin : List Nat → D → Option Rs
  | a, .lst l => match allStrs l with
    | some ws => if (ws.map List.length).sum + ws.length * a.length ≤ szl then some (.sh (.str (Txt.join (S a) (ws.map S)).cps.toList)) else none
    | none => none
  | _, _ => none
theorem rp_S {κ : Kx} {G : Hp} (x : Str) : Rp κ G (.str x) (.str x.cps.toList) := by
  have := Rp.str (κ := κ) (G := G) x.cps.toList
  rw [S_list] at this
  exact this
theorem rpa_Ss {κ : Kx} {G : Hp} : ∀ xs : List Str, RpA κ G (xs.map V.str) (xs.map fun x => D.str x.cps.toList)
  | [] => .nil
  | x :: r => .cons (rp_S x) (rpa_Ss r)
section
variable {X : Cx} {κ : Kx} {W : WX} {o e e2 : Expr} {mo me me2 : Sm D} {pos apos : Pos}
theorem v_find (ho : PE X o (tX κ W (RB κ) mo)) (he : PE X e (tX κ W (RB κ) me)) (hst : starEach [e] X.env = [(false, eval e X.env)] := by rfl) (hbase : attributeBase o "find" X.env (eval o X.env) = eval o X.env := by rfl) (hline : (apos.endLine == pos.line) = true := by rfl) :
    PE X (.Call (.Attribute o "find" apos) [e] [] pos) (tX κ W (RV κ) (fM1 opFind mo me)) := v_m1 PySem.F.slot_str_find PySem.F.type_str_find mt_find (fun W σ w y dy z H G env Q e r ry q => by
  cases dy <;> try (cases e; done)
  cases e
  exact ⟨_, _, rfl, by rw [ry.str], post_sh r (.int _) q⟩) ho he hst hbase hline
theorem v_starts (ho : PE X o (tX κ W (RB κ) mo)) (he : PE X e (tX κ W (RB κ) me)) (hst : starEach [e] X.env = [(false, eval e X.env)] := by rfl) (hbase : attributeBase o "startswith" X.env (eval o X.env) = eval o X.env := by rfl) (hline : (apos.endLine == pos.line) = true := by rfl) :
    PE X (.Call (.Attribute o "startswith" apos) [e] [] pos) (tX κ W (RV κ) (fM1 opStarts mo me)) := v_m1 PySem.F.slot_str_startswith PySem.F.type_str_startswith mt_startswith (fun W σ w y dy z H G env Q e r ry q => by
  cases dy <;> try (cases e; done)
  cases e
  exact ⟨_, _, rfl, by rw [ry.str], post_sh r (.bl _) q⟩) ho he hst hbase hline
theorem v_split (ho : PE X o (tX κ W (RB κ) mo)) (he : PE X e (tX κ W (RB κ) me)) (hst : starEach [e] X.env = [(false, eval e X.env)] := by rfl) (hbase : attributeBase o "split" X.env (eval o X.env) = eval o X.env := by rfl) (hline : (apos.endLine == pos.line) = true := by rfl) :
    PE X (.Call (.Attribute o "split" apos) [e] [] pos) (tX κ W (RV κ) (fM1 opSplit mo me)) := v_m1 PySem.F.slot_str_split PySem.F.type_str_split mt_split (fun W σ w y dy z H G env Q e r ry q => by
  cases dy <;> try (cases e; done)
  dsimp only [opSplit] at e
  split at e
  · rename_i b h
    cases e
    refine ⟨_, _, rfl, by rw [ry.str], by rw [S_len]; simpa using h.1, by rw [S_len]; have := szl_le h.2; have e2 : sizeLine = 16777216 := sizeLine_eq; have h3 : w.length ≤ 1000000 := h.2; omega, fun p hp => post_ow r hp (rpa_Ss _) q⟩
  · cases e) ho he hst hbase hline
theorem v_part (ho : PE X o (tX κ W (RB κ) mo)) (he : PE X e (tX κ W (RB κ) me)) (hst : starEach [e] X.env = [(false, eval e X.env)] := by rfl) (hbase : attributeBase o "partition" X.env (eval o X.env) = eval o X.env := by rfl) (hline : (apos.endLine == pos.line) = true := by rfl) :
    PE X (.Call (.Attribute o "partition" apos) [e] [] pos) (tX κ W (RV κ) (fM1 opPart mo me)) := v_m1 PySem.F.slot_str_partition PySem.F.type_str_partition mt_partition (fun W σ w y dy z H G env Q e r ry q => by
  cases dy <;> try (cases e; done)
  dsimp only [opPart] at e
  split at e
  · rename_i b h
    cases e
    refine ⟨_, _, rfl, by rw [ry.str], by rw [S_len]; simpa using h.1, by rw [S_len]; exact szl_le h.2, fun p hp => post_tup r hp (.cons (rp_S _) (.cons (rp_S _) (.cons (rp_S _) .nil))) q⟩
  · cases e) ho he hst hbase hline
theorem v_join (ho : PE X o (tX κ W (RB κ) mo)) (he : PE X e (tX κ W (RB κ) me)) (hst : starEach [e] X.env = [(false, eval e X.env)] := by rfl) (hbase : attributeBase o "join" X.env (eval o X.env) = eval o X.env := by rfl) (hline : (apos.endLine == pos.line) = true := by rfl) :
    PE X (.Call (.Attribute o "join" apos) [e] [] pos) (tX κ W (RV κ) (fM1 opJoin mo me)) := v_m1 PySem.F.slot_str_join PySem.F.type_str_join mt_join (fun W σ w y dy z H G env Q e r ry q => by
  cases dy <;> try (cases e; done)
  rename_i l
  dsimp only [opJoin] at e
  cases h : allStrs l with
  | none => rw [h] at e; cases e
  | some ws =>
    rw [h] at e
    dsimp only at e
    split at e
    · rename_i hl
      cases e
      rw [allStrs_of h] at ry
      obtain ⟨p, xs, rfl, h1, h2⟩ := ry.lst r.sub
      rw [RpA.ofStrs h2] at h1
      refine ⟨S w, p, ws.map S, rfl, rfl, .inl (SqL.of h1), ?_, post_sh r (rp_S _) q⟩
      have e1 : ((ws.map S).map fun x => x.length) = ws.map List.length := by
        rw [List.map_map]
        exact List.map_congr_left fun x _ => S_len x
      rw [e1, List.length_map, S_len]
      have : (ws.map List.length).sum + ws.length * w.length ≤ 1000000 := hl
      omega
    · cases e) ho he hst hbase hline
end
/-! ### kinds -/
/-- isinstance(x, int) and its like -/
inductive Kd where
  | int | bool | str | list | tuple
def Kd.nm : Kd → String
  | .int => "int" | .bool => "bool" | .str => "str" | .list => "list" | .tuple => "tuple"
def isKd : D → Kd → Option Bool
  | .non, _ => some false
  | .bl _, .int => some true
  | .bl _, .bool => some true
  | .bl _, _ => some false
  | .int _, .int => some true
  | .int _, _ => some false
  | .str _, .str => some true
  | .str _, _ => some false
  | .lst _, .list => some true
  | .lst _, _ => some false
  | .tup _, .tuple => some true
  | .tup _, _ => some false
  | _, _ => none
def fIsi (m : Sm D) (k : Kd) : Sm D := bnd m fun d e => match isKd d k with
  | some b => some (.ok (.bl b) e)
  | none => none
theorem kd_all : ∀ k : Kd, (kitB "NoneType" k.nm = some false) ∧ (kitB "bool" k.nm = isKd (.bl true) k) ∧ (kitB "int" k.nm = isKd (.int 0) k) ∧ (kitB "str" k.nm = isKd (.str []) k) ∧ (kitB "list" k.nm = isKd (.lst []) k) ∧ (kitB "tuple" k.nm = isKd (.tup []) k) := by
  intro k
  cases k <;> decide +kernel
theorem isi_of {κ : Kx} {H G : Hp} {v : V} {d : D} {k : Kd} {b : Bool} (s : Same G H) (r : RBq κ H G v d) (e : isKd d k = some b) : ∃ t, TyX κ.K H v t ∧ PySem.W.kitOne κ.K t (.type k.nm) = some b := by
  obtain ⟨h1, h2, h3, h4, h5, h6⟩ := kd_all k
  cases d with
  | non => cases k <;> (cases e; rw [r.non]; exact ⟨_, .base .non, kit_ty h1⟩)
  | bl c => rw [r.bl]; exact ⟨_, .base (.bl c), kit_ty (h2.trans (by cases k <;> exact e))⟩
  | int i => rw [r.int]; exact ⟨_, .base (.int i), kit_ty (h3.trans (by cases k <;> exact e))⟩
  | str w => rw [r.str]; exact ⟨_, .base (.str _), kit_ty (h4.trans (by cases k <;> exact e))⟩
  | lst l =>
    obtain ⟨a, xs, rfl, g1, g2⟩ := r.lst s
    exact ⟨_, .base (.lst g1), kit_ty (h5.trans (by cases k <;> exact e))⟩
  | tup l =>
    obtain ⟨a, xs, rfl, g1, g2⟩ := r.tup s
    exact ⟨_, .base (.tup g1), kit_ty (h6.trans (by cases k <;> exact e))⟩
  | ob c l => cases k <;> cases e
  | scr l => cases k <;> cases e
  | xn o x => cases k <;> cases e
section
variable {X : Cx} {κ : Kx} {W : WX} {o e : Expr} {mo : Sm D} {pos p p2 : Pos}
theorem v_isi {T : Str} (k : Kd) (hK : X.K = κ.K) (hg : Gl X "isinstance") (hm : X.mg "isinstance" = none) (hT : PE X (.Name T p2) (tC (.ty k.nm))) (ho : PE X o (tX κ W (RB κ) mo))
    (hv : bootBuiltins "isinstance" = some (.builtin "isinstance") := by decide +kernel) (hst : starEach [o, .Name T p2] X.env = [(false, eval o X.env), (false, eval (.Name T p2) X.env)] := by rfl) (hst2 : starEach [.Name T p2] X.env = [(false, eval (.Name T p2) X.env)] := by rfl) (hpl : (backTo pos (starEach [.Name T p2] X.env)).any (·.1) = false := by rfl) :
    PE X (.Call (.Name "isinstance" p) [o, .Name T p2] [] pos) (tX κ W (RP κ) (fIsi mo k)) :=
  PE.imp (pe_callB call_isi hg hm hv (pa_cons ho (pa_cons hT pa_nil (by rw [hst2]; rfl)) (by rw [hst, hst2])) (by decide) (by decide) (by rw [hst, hst2]) hpl) fun σ H Q ⟨G, env, rp, q⟩ => by
    refine bind_post rp q fun d e1 x H1 G1 _ rp1 rx s1 f1 q1 => ?_
    cases z : isKd d k with
    | none => rw [z] at q1; exact q1.elim
    | some b =>
      rw [z] at q1
      obtain ⟨t, h1, h2⟩ := isi_of rp1.sub rx z
      rw [hK]
      exact ⟨x, .ty k.nm, t, .type k.nm, b, rfl, .ty _, h1, h2, q1 _ H1 G1 rp1 (.bl b) (Grw.refl _) Fr.refl⟩
end
/-! ### defs -/
inductive FO where
  | rt (r : Rs) | ex (x : Ex)
abbrev FSem := List D → Option FO
/-- .. of a def that is handed a thing to be changed -/
inductive FOI where
  | rt (r : Rs) (o : O) | ex (x : Ex) (o : O)
abbrev FSemI := O → List D → Option FOI
def RF (κ : Kx) (H H' G' : Hp) (v : V) : Rs → Prop
  | .sh d => Rp κ G' v d
  | .ow l => ∃ a xs, v = .ref a ∧ H a = none ∧ H' a = some (.lst xs) ∧ G' a = none ∧ RpA κ G' xs l
  | .tr o => ∃ F, RO κ H' G' v o F ∧ ∀ a, a ∈ F → H a = none
def FPost (κ : Kx) (H G : Hp) (o : Option FO) (Q : VK) (E : XK) : Prop := match o with
  | none => False
  | some (.rt r) => ∀ v H' G', Grw H H' → Same G G' → Sub κ G' H' → (∀ a o, H a = some o → G a = none → G' a = none) → RF κ H H' G' v r → Q v H'
  | some (.ex x) => ∀ c d H' G', Grw H H' → Same G G' → Sub κ G' H' → (∀ a o, H a = some o → G a = none → G' a = none) → XR κ G' x c d → E c d H'
def spV (κ : Kx) (ms : List Bool) (g : FSem) : Sp := fun vs H Q E => ∃ G ds, Sub κ G H ∧ RBs κ H G ms vs ds ∧ FPost κ H G (g ds) Q E
/-- what a thing at F has become -/
structure Chg (κ : Kx) (H G : Hp) (F : List Addr) (H' G' : Hp) : Prop where
  hk : ∀ a z, H a = some z → a ∉ F → ∃ o', H' a = some o' ∧ (nt z → o' = z)
  gk : Same G G'
  sub : Sub κ G' H'
  gn : ∀ a z, H a = some z → G a = none → a ∉ F → G' a = none
def RFI (κ : Kx) (H H' G' : Hp) (F F' : List Addr) (v : V) : Rs → Prop
  | .sh d => Rp κ G' v d
  | .ow l => ∃ a xs, v = .ref a ∧ (a ∈ F ∨ H a = none) ∧ a ∉ F' ∧ H' a = some (.lst xs) ∧ G' a = none ∧ RpA κ G' xs l
  | .tr o => ∃ F2, RO κ H' G' v o F2 ∧ ∀ a, a ∈ F2 → (a ∈ F ∨ H a = none) ∧ a ∉ F'
def FPostI (κ : Kx) (H G : Hp) (u : V) (F : List Addr) (o : Option FOI) (Q : VK) (E : XK) : Prop := match o with
  | none => False
  | some (.rt r o') => ∀ v H' G' F', Chg κ H G F H' G' → RO κ H' G' u o' F' → (∀ a, a ∈ F' → a ∈ F ∨ H a = none) → RFI κ H H' G' F F' v r → Q v H'
  | some (.ex x o') => ∀ c d H' G' F', Chg κ H G F H' G' → RO κ H' G' u o' F' → (∀ a, a ∈ F' → a ∈ F ∨ H a = none) → XR κ G' x c d → E c d H'
def insA {α : Type} : Nat → α → List α → List α
  | 0, x, l => x :: l
  | _ + 1, x, [] => [x]
  | n + 1, x, y :: l => y :: insA n x l
theorem insA_map {α β : Type} (f : α → β) (x : α) : ∀ (p : Nat) (l : List α), (insA p x l).map f = insA p (f x) (l.map f)
  | 0, l => rfl
  | p + 1, [] => rfl
  | p + 1, y :: l => by simp only [insA, List.map_cons, insA_map f x p l]
theorem insA_len {α : Type} (x : α) : ∀ (p : Nat) (l : List α), (insA p x l).length = l.length + 1
  | 0, l => rfl
  | p + 1, [] => rfl
  | p + 1, y :: l => by simp only [insA, List.length_cons, insA_len x p l]
theorem insA_at {α : Type} (x : α) : ∀ (p : Nat) (l : List α), p ≤ l.length → (insA p x l)[p]? = some x
  | 0, l, _ => rfl
  | p + 1, [], h => by simp at h
  | p + 1, y :: l, h => by simpa only [insA, List.getElem?_cons_succ] using insA_at x p l (by simpa using h)
/-- borrowed arguments lie apart from F -/
inductive RBx (κ : Kx) (H G : Hp) (F : List Addr) : List Bool → List V → List D → Prop
  | nil : RBx κ H G F [] [] []
  | sh {ms : List Bool} {v : V} {vs : List V} {d : D} {ds : List D} : Rp κ G v d → RBx κ H G F ms vs ds → RBx κ H G F (false :: ms) (v :: vs) (d :: ds)
  | bo {ms : List Bool} {v : V} {vs : List V} {d : D} {ds : List D} : (Rp κ G v d ∨ ∃ a xs l, d = .lst l ∧ v = .ref a ∧ H a = some (.lst xs) ∧ RpA κ G xs l ∧ a ∉ F) → RBx κ H G F ms vs ds → RBx κ H G F (true :: ms) (v :: vs) (d :: ds)
def spI (κ : Kx) (p : Nat) (ms : List Bool) (g : FSemI) : Sp := fun vs H Q E => ∃ G v us ds o F, vs = insA p v us ∧ p ≤ ms.length ∧ Sub κ G H ∧ RO κ H G v o F ∧ RBx κ H G F ms us ds ∧ FPostI κ H G v F (g o ds) Q E
theorem RBs.len {κ : Kx} {H G : Hp} : ∀ {ms : List Bool} {vs : List V} {ds : List D}, RBs κ H G ms vs ds → vs.length = ms.length ∧ ds.length = ms.length
  | _, _, _, .nil => ⟨rfl, rfl⟩
  | _, _, _, .sh _ t => by simp [t.len.1, t.len.2]
  | _, _, _, .bo _ t => by simp [t.len.1, t.len.2]
theorem RBx.len {κ : Kx} {H G : Hp} {F : List Addr} : ∀ {ms : List Bool} {vs : List V} {ds : List D}, RBx κ H G F ms vs ds → vs.length = ms.length ∧ ds.length = ms.length
  | _, _, _, .nil => ⟨rfl, rfl⟩
  | _, _, _, .sh _ t => by simp [t.len.1, t.len.2]
  | _, _, _, .bo _ t => by simp [t.len.1, t.len.2]
theorem RBs.x {κ : Kx} {H G : Hp} {F : List Addr} (h : ∀ a, a ∈ F → H a = none) : ∀ {ms : List Bool} {vs : List V} {ds : List D}, RBs κ H G ms vs ds → RBx κ H G F ms vs ds
  | _, _, _, .nil => .nil
  | _, _, _, .sh r t => .sh r (RBs.x h t)
  | _, _, _, .bo (.inl r) t => .bo (.inl r) (RBs.x h t)
  | _, _, _, .bo (.inr ⟨a, xs, l, h1, h2, h3, h4⟩) t => .bo (.inr ⟨a, xs, l, h1, h2, h3, h4, fun m => by rw [h a m] at h3; cases h3⟩) (RBs.x h t)
theorem RBx.mono {κ : Kx} {H G H' G' : Hp} {F : List Addr} (h : Grw H H') (g : Same G G') : ∀ {ms : List Bool} {vs : List V} {ds : List D}, RBx κ H G F ms vs ds → RBx κ H' G' F ms vs ds
  | _, _, _, .nil => .nil
  | _, _, _, .sh r t => .sh (r.mono g) (RBx.mono h g t)
  | _, _, _, .bo (.inl r) t => .bo (.inl (r.mono g)) (RBx.mono h g t)
  | _, _, _, .bo (.inr ⟨a, xs, l, h1, h2, h3, h4, h5⟩) t => .bo (.inr ⟨a, xs, l, h1, h2, h.at h3, h4.mono g, h5⟩) (RBx.mono h g t)
theorem RpA.x {κ : Kx} {H G : Hp} {F : List Addr} : ∀ {ms : List Bool} {vs : List V} {ds : List D}, ms.length = vs.length → RpA κ G vs ds → RBx κ H G F ms vs ds
  | [], _, _, _, .nil => .nil
  | [], _, _, h, .cons _ _ => by cases h
  | _ :: _, _, _, h, .nil => by cases h
  | false :: ms, _, _, h, .cons r t => .sh r (RpA.x (by simpa using h) t)
  | true :: ms, _, _, h, .cons r t => .bo (.inl r) (RpA.x (by simpa using h) t)
def bof : D → Sl
  | .lst l => .bo l
  | d => .sh d
def inis : List Bool → List D → En
  | true :: ms, d :: ds => bof d :: inis ms ds
  | false :: ms, d :: ds => .sh d :: inis ms ds
  | _, _ => []
def runDef (ms : List Bool) (k : Nat) (body : Ss) : FSem := fun ds => match body (inis ms ds ++ List.replicate k .un) with
  | some (.nx _) => some (.rt (.sh .non))
  | some (.rt r) => some (.rt r)
  | some (.ex x _) => some (.ex x)
  | _ => none
def ioAt (e : En) (p : Nat) : Option O := match e[p]? with
  | some (.io o) => some o
  | _ => none
def runDefI (p : Nat) (ms : List Bool) (k : Nat) (body : Ss) : FSemI := fun o ds => match body (insA p (.io o) (inis ms ds) ++ List.replicate k .un) with
  | some (.nx e) => match ioAt e p with
    | some o' => some (.rt (.sh .non) o')
    | none => none
  | some (.rv r e) => match ioAt e p with
    | some o' => some (.rt r o')
    | none => none
  | some (.ex x e) => match ioAt e p with
    | some o' => some (.ex x o')
    | none => none
  | _ => none
section
variable {κ : Kx} {H G : Hp}
/-- a slot at a def's start -/
def SlIn (κ : Kx) (H G : Hp) (F : List Addr) (v : Option V) : Sl → Prop
  | .un => True
  | .sh d => ∃ x, v = some x ∧ Rp κ G x d
  | .bo l => ∃ a xs, v = some (.ref a) ∧ H a = some (.lst xs) ∧ RpA κ G xs l ∧ a ∉ F
  | .io o => ∃ x, v = some x ∧ RO κ H G x o F
  | _ => False
theorem bof_in {F : List Addr} {v : V} {d : D} (s : Same G H) (hF : ∀ a, a ∈ F → G a = none) (r : Rp κ G v d ∨ ∃ a xs l, d = .lst l ∧ v = .ref a ∧ H a = some (.lst xs) ∧ RpA κ G xs l ∧ a ∉ F) : SlIn κ H G F (some v) (bof d) := by
  rcases r with r | ⟨a, xs, l, rfl, rfl, h3, h4, h5⟩
  · cases r with
    | lst h1 h2 => exact ⟨_, _, rfl, s _ _ h1, h2, fun m => by rw [hF _ m] at h1; cases h1⟩
    | non => exact ⟨_, rfl, .non⟩
    | bl b => exact ⟨_, rfl, .bl b⟩
    | int b => exact ⟨_, rfl, .int b⟩
    | str b => exact ⟨_, rfl, .str b⟩
    | tup h1 h2 => exact ⟨_, rfl, .tup h1 h2⟩
    | ob h1 h2 h3 => exact ⟨_, rfl, .ob h1 h2 h3⟩
    | scr h1 => exact ⟨_, rfl, .scr h1⟩
    | xn h1 => exact ⟨_, rfl, .xn h1⟩
  · exact ⟨a, xs, rfl, h3, h4, h5⟩
theorem inis_in {F : List Addr} (s : Same G H) (hF : ∀ a, a ∈ F → G a = none) : ∀ {ms : List Bool} {vs : List V} {ds : List D}, RBx κ H G F ms vs ds → ∀ (i : Nat) (z : Sl), (inis ms ds)[i]? = some z → SlIn κ H G F vs[i]? z ∧ ∀ o, z ≠ .io o
  | _, _, _, .nil, i, z, e => by simp [inis] at e
  | _, _, _, .sh r t, 0, z, e => by
    simp only [inis, List.getElem?_cons_zero, Option.some.injEq] at e
    subst e
    exact ⟨⟨_, rfl, r⟩, fun o q => nomatch q⟩
  | _, _, _, .bo r t, 0, z, e => by
    simp only [inis, List.getElem?_cons_zero, Option.some.injEq] at e
    subst e
    refine ⟨bof_in s hF r, fun o => ?_⟩
    unfold bof
    split <;> exact (fun z => nomatch z)
  | _, _, _, .sh r t, i + 1, z, e => by
    simp only [inis, List.getElem?_cons_succ] at e
    simpa only [List.getElem?_cons_succ] using inis_in s hF t i z e
  | _, _, _, .bo r t, i + 1, z, e => by
    simp only [inis, List.getElem?_cons_succ] at e
    simpa only [List.getElem?_cons_succ] using inis_in s hF t i z e
theorem inis_len : ∀ {ms : List Bool} {ds : List D}, ds.length = ms.length → (inis ms ds).length = ms.length
  | [], [], _ => rfl
  | [], _ :: _, h => by cases h
  | _ :: _, [], h => by cases h
  | true :: ms, d :: ds, h => by
    simp only [inis, List.length_cons]
    rw [inis_len (by simpa using h)]
  | false :: ms, d :: ds, h => by
    simp only [inis, List.length_cons]
    rw [inis_len (by simpa using h)]
/-- the addresses of the slots at the start -/
def fpS (F : List Addr) (env : En) (vs : List V) : Nat → List Addr := fun j => match env[j]? with
  | some (.bo _) => match vs[j]? with
    | some (.ref a) => [a]
    | _ => []
  | some (.io _) => F
  | _ => []
theorem rep_in {N : List Str} {vs : List V} {env0 : En} {k : Nat} {F : List Addr} (s : Sub κ G H) (hl : env0.length = vs.length) (hk : N.length = vs.length + k) (h : ∀ (i : Nat) (z : Sl), env0[i]? = some z → SlIn κ H G F vs[i]? z) (hu : ∀ (i j : Nat) (o o' : O), env0[i]? = some (Sl.io o) → env0[j]? = some (Sl.io o') → i = j) :
    Rep κ H ⟨G, fpS F (env0 ++ List.replicate k .un) vs⟩ (start N vs) (env0 ++ List.replicate k .un) := by
  have look : ∀ {i : Nat} {z : Sl}, (env0 ++ List.replicate k Sl.un)[i]? = some z → (i < vs.length ∧ env0[i]? = some z) ∨ z = .un := fun {i z} e => by
    by_cases hi : i < env0.length
    · rw [List.getElem?_append_left hi] at e
      exact .inl ⟨by omega, e⟩
    · rw [List.getElem?_append_right (by omega)] at e
      have := List.mem_of_getElem? e
      rw [List.mem_replicate] at this
      exact .inr this.2
  have st : ∀ {i : Nat}, i < vs.length → (start N vs)[i]? = (vs[i]?).map some := fun {i} hi => by
    unfold L2.start
    rw [List.getElem?_append_left (by rw [List.length_map]; exact hi), List.getElem?_map]
  refine ⟨s, ?_, fun i z e => ?_, fun i j a t ⟨s1, o, e1, t1, m1⟩ e2 m2 => ?_⟩
  · unfold L2.start
    rw [List.length_append, List.length_append, List.length_map, List.length_replicate, List.length_replicate]
    omega
  · show RSl κ H G _ (fpS F _ vs i) z
    rcases look e with ⟨hi, e2⟩ | rfl
    · have q := h i z e2
      rw [st hi]
      cases z with
      | un => show fpS F _ vs i = []; unfold fpS; rw [e]
      | sh d =>
        obtain ⟨x, h1, h2⟩ := q
        rw [h1]
        exact ⟨by unfold fpS; rw [e], x, rfl, h2⟩
      | bo l =>
        obtain ⟨a, xs, h1, h2, h3, h4⟩ := q
        rw [h1]
        exact ⟨a, xs, rfl, h2, h3, by unfold fpS; rw [e]; dsimp only; rw [h1]⟩
      | io o =>
        obtain ⟨x, h1, h2⟩ := q
        rw [h1]
        refine ⟨x, rfl, ?_⟩
        have : fpS F (env0 ++ List.replicate k Sl.un) vs i = F := by unfold fpS; rw [e]
        rw [this]
        exact h2
      | _ => exact q.elim
    · show fpS F _ vs i = []; unfold fpS; rw [e]
  · have m1 : a ∈ fpS F (env0 ++ List.replicate k Sl.un) vs i := m1
    have m2 : a ∈ fpS F (env0 ++ List.replicate k Sl.un) vs j := m2
    unfold fpS at m1 m2
    rw [e1] at m1
    rw [e2] at m2
    rcases look e1 with ⟨hi, e1'⟩ | rfl
    · have q1 := h i s1 e1'
      cases s1 with
      | io o1 =>
        rcases look e2 with ⟨hj, e2'⟩ | rfl
        · have q2 := h j t e2'
          cases t with
          | io o2 => exact hu i j _ _ e1' e2'
          | bo l =>
            obtain ⟨b, xs, h1, h2, h3, h4⟩ := q2
            dsimp only at m2
            rw [h1] at m2
            rw [List.mem_singleton.mp m2] at m1
            exact absurd m1 h4
          | _ => cases m2
        · cases m2
      | un => cases t1
      | sh d => cases t1
      | bo l => cases t1
      | _ => exact q1.elim
    · cases t1
theorem mt_start {vs : List V} {env0 : En} {k : Nat} {F : List Addr} {a : Addr} (m : Mt ⟨G, fpS F (env0 ++ List.replicate k .un) vs⟩ (env0 ++ List.replicate k .un) a) (h : ∀ (i : Nat) (z : Sl), env0[i]? = some z → SlIn κ H G F vs[i]? z) : a ∈ F ∧ ∃ (i : Nat) (o : O), env0[i]? = some (Sl.io o) := by
  obtain ⟨i, s, e, hm, m⟩ := m
  have m : a ∈ fpS F (env0 ++ List.replicate k Sl.un) vs i := m
  by_cases hi : i < env0.length
  · have e2 := e
    rw [List.getElem?_append_left hi] at e2
    have q := h i s e2
    unfold fpS at m
    rw [e] at m
    cases s with
    | io o => exact ⟨m, i, o, e2⟩
    | ow l => exact q.elim
    | tr o => exact q.elim
    | _ => cases hm
  · rw [List.getElem?_append_right (by omega)] at e
    have := List.mem_of_getElem? e
    rw [List.mem_replicate] at this
    rw [this.2] at hm
    cases hm
/-- the end of a def's proof -/
theorem v_end {N : List Str} {ms : List Bool} {k : Nat} {body : Ss} {vs : List V} {Q : VK} {E : XK} (hk : N.length = ms.length + k) (h : spV κ ms (runDef ms k body) vs H Q E) :
    tS κ (fun c d _ H' => E c d H') body { nx := fun _ H' => Q .non H', rt := Q } (start N vs) H := by
  obtain ⟨G, ds, s, r, q⟩ := h
  obtain ⟨l1, l2⟩ := r.len
  have rx := r.x (F := []) fun a m => by cases m
  have hin : ∀ (i : Nat) (z : Sl), (inis ms ds)[i]? = some z → SlIn κ H G [] vs[i]? z ∧ ∀ o, z ≠ .io o := inis_in s (fun a m => by cases m) rx
  have rp := rep_in (N := N) (k := k) (F := []) s (by rw [inis_len l2, l1]) (by rw [l1]; exact hk) (fun i z e => (hin i z e).1) fun i j o o' e _ => ((hin i _ e).2 o rfl).elim
  have nm : ∀ a, ¬ Mt ⟨G, fpS [] (inis ms ds ++ List.replicate k .un) vs⟩ (inis ms ds ++ List.replicate k .un) a := fun a m => by
    obtain ⟨m, _⟩ := mt_start m fun i z e => (hin i z e).1
    cases m
  refine ⟨_, _, rp, ?_⟩
  unfold runDef at q
  cases z : body (inis ms ds ++ List.replicate k Sl.un) with
  | none => rw [z] at q; exact q
  | some o => cases o with
    | nx e =>
      rw [z] at q
      exact fun σ' H' G' r' f => q .non H' G' (fun a o h => f.hk a o h (nm a)) f.gk r'.sub (fun a o h g => f.gn a o h g (nm a)) .non
    | bk e => rw [z] at q; exact q.elim
    | ct e => rw [z] at q; exact q.elim
    | rv r e => rw [z] at q; exact q.elim
    | rt x =>
      rw [z] at q
      intro v H' G' s' rr f
      refine q v H' G' (fun a o h => f.hk a o h (nm a)) f.gk s' (fun a o h g => f.gn a o h g (nm a)) ?_
      have fresh : ∀ a, Nw H ⟨G, fpS [] (inis ms ds ++ List.replicate k .un) vs⟩ (inis ms ds ++ List.replicate k .un) a → H a = none := fun a n => by
        cases w : H a with
        | none => rfl
        | some o => exact (nm a (n o w)).elim
      cases x with
      | sh d => exact rr
      | ow l =>
        obtain ⟨a, xs, h1, h2, h3, h4, h5⟩ := rr
        exact ⟨a, xs, h1, fresh a h5, h2, h3, h4⟩
      | tr o =>
        obtain ⟨F, h1, h2⟩ := rr
        exact ⟨F, h1, fun a m => fresh a (h2 a m)⟩
    | ex x e =>
      rw [z] at q
      exact fun c d σ' H' G' r' xr f => q c d H' G' (fun a o h => f.hk a o h (nm a)) f.gk r'.sub (fun a o h g => f.gn a o h g (nm a)) xr
theorem insA_cases {α : Type} {x z : α} : ∀ {p : Nat} {l : List α} {i : Nat}, p ≤ l.length → (insA p x l)[i]? = some z → (i = p ∧ z = x) ∨ (i ≠ p ∧ ∃ j : Nat, l[j]? = some z ∧ ∀ {β : Type} (y : β) (k : List β), k.length = l.length → (insA p y k)[i]? = k[j]?)
  | 0, l, 0, _, e => .inl ⟨rfl, by simpa [insA] using e.symm⟩
  | 0, l, i + 1, _, e => .inr ⟨by omega, i, by simpa [insA] using e, fun y k _ => by simp [insA]⟩
  | p + 1, [], i, h, e => by simp at h
  | p + 1, y :: l, 0, h, e => .inr ⟨by omega, 0, by simpa [insA] using e, fun w k hk => by
    cases k with
    | nil => simp at hk
    | cons c k => simp [insA]⟩
  | p + 1, y :: l, i + 1, h, e => by
    have e' : (insA p x l)[i]? = some z := by simpa [insA] using e
    rcases insA_cases (by simpa using h) e' with ⟨h1, h2⟩ | ⟨h1, j, h2, h3⟩
    · exact .inl ⟨by omega, h2⟩
    · refine .inr ⟨by omega, j + 1, by simpa using h2, fun w k hk => ?_⟩
      cases k with
      | nil => simp at hk
      | cons c k => simpa [insA] using h3 w k (by simpa using hk)
/-- .. of a def that is handed a thing to be changed -/
theorem v_endI {N : List Str} {p : Nat} {ms : List Bool} {k : Nat} {body : Ss} {vs : List V} {Q : VK} {E : XK} (hk : N.length = ms.length + 1 + k) (h : spI κ p ms (runDefI p ms k body) vs H Q E) :
    tS κ (fun c d _ H' => E c d H') body { nx := fun _ H' => Q .non H', rt := Q } (start N vs) H := by
  obtain ⟨G, v0, us, ds, o, F, rfl, hp, s, ro, rx, q⟩ := h
  obtain ⟨l1, l2⟩ := rx.len
  have li := inis_len l2
  have hin := inis_in s (fun a m => (ro.own m).2) rx
  have hin2 : ∀ (i : Nat) (z : Sl), (insA p (Sl.io o) (inis ms ds))[i]? = some z → SlIn κ H G F (insA p v0 us)[i]? z ∧ (i = p ∨ ∀ o, z ≠ .io o) := fun i z e => by
    rcases insA_cases (by rw [li]; exact hp) e with ⟨rfl, rfl⟩ | ⟨h1, j, h2, h3⟩
    · exact ⟨⟨v0, insA_at v0 _ us (by rw [l1]; exact hp), ro⟩, .inl rfl⟩
    · rw [h3 v0 us (by rw [l1, li])]
      exact ⟨(hin j z h2).1, .inr (hin j z h2).2⟩
  have rp := rep_in (N := N) (k := k) (F := F) (vs := insA p v0 us) (env0 := insA p (.io o) (inis ms ds)) s (by rw [insA_len, insA_len, li, l1]) (by rw [insA_len, l1]; exact hk) (fun i z e => (hin2 i z e).1) fun i j o1 o2 e1 e2 => by
    rcases (hin2 i _ e1).2 with h1 | h1
    · rcases (hin2 j _ e2).2 with h2 | h2
      · exact h1.trans h2.symm
      · exact (h2 _ rfl).elim
    · exact (h1 _ rfl).elim
  have mf : ∀ a, Mt ⟨G, fpS F (insA p (.io o) (inis ms ds) ++ List.replicate k .un) (insA p v0 us)⟩ (insA p (.io o) (inis ms ds) ++ List.replicate k .un) a → a ∈ F := fun a m => (mt_start m fun i z e => (hin2 i z e).1).1
  have sp : (start N (insA p v0 us))[p]? = some (some v0) := by
    unfold L2.start
    rw [List.getElem?_append_left (by rw [List.length_map, insA_len, l1]; omega), List.getElem?_map, insA_at v0 p us (by rw [l1]; exact hp)]
    rfl
  refine ⟨_, _, rp, ?_⟩
  generalize hG0 : (⟨G, fpS F (insA p (Sl.io o) (inis ms ds) ++ List.replicate k .un) (insA p v0 us)⟩ : Gh) = G0 at rp mf ⊢
  have g0 : G0.g = G := by rw [← hG0]
  have chg : ∀ {σ' : L2.St} {H' : Hp} {G' : Gh} {e : En} {o' : O}, Rep κ H' G' σ' e → Fr H G0 (start N (insA p v0 us)) (insA p (.io o) (inis ms ds) ++ List.replicate k .un) H' G' σ' e → ioAt e p = some o' →
      Chg κ H G F H' G' ∧ RO κ H' G' v0 o' (G'.fp p) ∧ ∀ a, a ∈ G'.fp p → a ∈ F ∨ H a = none := fun {σ' H' G' e o'} r' f hio => by
    have ep : e[p]? = some (.io o') := by
      unfold ioAt at hio
      split at hio
      · rename_i o2 h2; cases hio; exact h2
      · cases hio
    obtain ⟨s0, h0, w0, es, _⟩ := f.lk p (.io o') rfl ep
    obtain ⟨x, h1, h2⟩ := (r'.slot p _ ep).th (o := o') rfl
    rw [es, sp] at h1
    cases h1
    refine ⟨⟨fun a z h n => f.hk a z h fun m => n (mf a m), by rw [← g0]; exact f.gk, r'.sub, fun a z h g n => f.gn a z h (by rw [g0]; exact g) fun m => n (mf a m)⟩, h2, fun a m => ?_⟩
    cases w : H a with
    | none => exact .inr rfl
    | some z => exact .inl (mf a (f.mm a z w ⟨p, _, ep, rfl, m⟩))
  unfold runDefI at q
  cases z : body (insA p (Sl.io o) (inis ms ds) ++ List.replicate k Sl.un) with
  | none => rw [z] at q; exact q
  | some w => cases w with
    | nx e =>
      rw [z] at q
      intro σ' H' G' r' f
      dsimp only at q
      cases y : ioAt e p with
      | none => rw [y] at q; exact q.elim
      | some o' =>
        rw [y] at q
        obtain ⟨c1, c2, c3⟩ := chg r' f y
        exact q .non H' G' _ c1 c2 c3 .non
    | bk e => rw [z] at q; exact q.elim
    | ct e => rw [z] at q; exact q.elim
    | rt x => rw [z] at q; exact q.elim
    | rv x e =>
      rw [z] at q
      intro v σ' H' G' r' rv f
      dsimp only at q
      cases y : ioAt e p with
      | none => rw [y] at q; exact q.elim
      | some o' =>
        rw [y] at q
        obtain ⟨c1, c2, c3⟩ := chg r' f y
        have ep : e[p]? = some (.io o') := by
          unfold ioAt at y
          split at y
          · rename_i o2 h2; cases y; exact h2
          · cases y
        refine q v H' G' _ c1 c2 c3 ?_
        have nw : ∀ a, Nw H G0 (insA p (.io o) (inis ms ds) ++ List.replicate k .un) a → a ∈ F ∨ H a = none := fun a n => by
          cases w : H a with
          | none => exact .inr rfl
          | some z => exact .inl (mf a (n z w))
        cases x with
        | sh d => exact rv
        | ow l =>
          obtain ⟨a, xs, h1, h2, h3, h4, h5, h6⟩ := rv
          exact ⟨a, xs, h1, nw a h6, h5 p _ ep, h2, h3, h4⟩
        | tr o2 =>
          obtain ⟨F2, h1, h2⟩ := rv
          exact ⟨F2, h1, fun a m => ⟨nw a (h2 a m).2, (h2 a m).1 p _ ep⟩⟩
    | ex x e =>
      rw [z] at q
      intro c d σ' H' G' r' xr f
      dsimp only at q
      cases y : ioAt e p with
      | none => rw [y] at q; exact q.elim
      | some o' =>
        rw [y] at q
        obtain ⟨c1, c2, c3⟩ := chg r' f y
        exact q c d H' G' _ c1 c2 c3 xr
end
/-- a def of the module that keeps its function: callers need no more -/
structure VFn (P : Program) (w : World) (κ : Kx) (mg : Str → Option Value) (base : Heap) (x : Str) (k : Nat) (ms : List Bool) (g : FSem) : Prop where
  ex : ∃ (f : Addr) (fd : FuncData) (ps : List Str), mg x = some (.ref f) ∧ PySem.W.keepIn κ.K (.ref f) = true ∧ FnOk P w κ.K mg base (L2.CX P w) k f fd ps (spV κ ms g) ∧ Binds κ.K fd ps []
structure VFnI (P : Program) (w : World) (κ : Kx) (mg : Str → Option Value) (base : Heap) (x : Str) (k : Nat) (p : Nat) (ms : List Bool) (g : FSemI) : Prop where
  ex : ∃ (f : Addr) (fd : FuncData) (ps : List Str), mg x = some (.ref f) ∧ PySem.W.keepIn κ.K (.ref f) = true ∧ FnOk P w κ.K mg base (L2.CX P w) k f fd ps (spI κ p ms g) ∧ Binds κ.K fd ps []
def fCall (g : FSem) (m : Sm (List D)) : Sm Rs := bnd m fun ds e => match g ds with
  | some (.rt r) => some (.ok r e)
  | some (.ex x) => some (.ex x e)
  | none => none
/-- a thing that is changed, at a slot -/
def getO : Sl → Option O
  | .ow l => some (.ls l)
  | .io o => some o
  | .tr o => some o
  | _ => none
def setO : Sl → O → Sl
  | .io _, o => .io o
  | .ow _, .ls l => .ow l
  | _, o => .tr o
theorem getO_th {s : Sl} {o : O} (h : getO s = some o) : s.th = some o ∧ s.mut = true := by
  cases s <;> first
    | (cases h; done)
    | (cases h; exact ⟨rfl, rfl⟩)
theorem setO_th {s : Sl} {o : O} : (setO s o).th = some o ∧ (setO s o).mut = true := by
  cases s <;> cases o <;> exact ⟨rfl, rfl⟩
theorem setO_was {s : Sl} {o o' : O} (h : getO s = some o) : (setO s o').fix = true → (setO s o').was s := fun q => by
  cases s <;> first
    | (cases h; done)
    | exact ⟨_, rfl⟩
    | (cases o' <;> cases q)
def fCallI (i : Nat) (g : FSemI) (m : Sm (List D)) : Sm Rs := bnd m fun ds e => match e[i]? with
  | some s => match getO s with
    | some o => match g o ds with
      | some (.rt r o') => some (.ok r (e.set i (setO s o')))
      | some (.ex x o') => some (.ex x (e.set i (setO s o')))
      | none => none
    | none => none
  | none => none
section
variable {X : Cx} {κ : Kx} {W : WX} {e : Expr} {es : List Expr} {ms : List Bool} {g : FSem} {gI : FSemI} {mr : Sm (List D)} {k : Nat} {x : Str} {p pos : Pos}
theorem call_post {σ : L2.St} {H : Hp} {G : Gh} {env : En} {vs : List V} {ds : List D} {Q : VK} (r : Rep κ H G σ env) (rv : RBs κ H G ms vs ds) (q : EPost κ W (RV κ) σ H G env (match g ds with
  | some (.rt r) => some (.ok r env)
  | some (.ex x) => some (.ex x env)
  | none => none) Q) : spV κ ms g vs H Q (WE W σ) := by
  refine ⟨G.g, ds, r.sub, rv, ?_⟩
  have gr : ∀ {H' G' : Hp}, Grw H H' → Same G.g G' → Sub κ G' H' → (∀ a o, H a = some o → G.g a = none → G' a = none) → Rep κ H' ⟨G', G.fp⟩ σ env ∧ Fr H G σ env H' ⟨G', G.fp⟩ σ env := fun {H' G'} s g1 g2 gn =>
    ⟨r.grow (G' := ⟨G', G.fp⟩) s g1 g2 (fun _ => rfl) fun i a o => by
      obtain ⟨⟨u, h⟩, g0⟩ := r.own o
      exact gn a _ h g0, Fr.same s g1 (fun a o h g0 _ => gn a o h g0) (fun _ _ _ h => h) fun _ _ _ h => ⟨h, rfl⟩⟩
  cases z : g ds with
  | none => rw [z] at q; exact q
  | some o => cases o with
    | rt y =>
      rw [z] at q
      intro v H' G' s g1 g2 gn rf
      obtain ⟨r1, f1⟩ := gr s g1 g2 gn
      refine q v H' ⟨G', G.fp⟩ r1 ?_ s f1
      have fr : ∀ a, H a = none → Fre ⟨G', G.fp⟩ env a ∧ Nw H G env a := fun a h2 => ⟨r.fre h2, fun o h => by rw [h2] at h; cases h⟩
      cases y with
      | sh d => exact rf
      | ow l =>
        obtain ⟨a, xs, h1, h2, h3, h4, h5⟩ := rf
        exact ⟨a, xs, h1, h3, h4, h5, (fr a h2).1, (fr a h2).2⟩
      | tr o =>
        obtain ⟨F, h1, h2⟩ := rf
        exact ⟨F, h1, fun a m => fr a (h2 a m)⟩
    | ex y =>
      rw [z] at q
      intro c d H' G' s g1 g2 gn xr
      obtain ⟨r1, f1⟩ := gr s g1 g2 gn
      exact q c d H' ⟨G', G.fp⟩ r1 xr s f1
theorem v_call (F : VFn X.prog X.w κ X.mg X.base x k ms g) (hK : X.K = κ.K) (hr : Room k X.A) (tk : Takes X W) (hg : Gl X x) (ha : PA X (e :: es) (tX κ W (RA κ ms) mr)) (hdb : (x == ("__debug__" : Str)) = false := by decide)
    (he : starEach (e :: es) X.env = (false, eval e X.env) :: starEach es X.env := by rfl) (hpl : (backTo pos (starEach es X.env)).any (·.1) = false := by rfl) : PE X (.Call (.Name x p) (e :: es) [] pos) (tX κ W (RV κ) (fCall g mr)) := by
  obtain ⟨f, fd, ps, hm, hk, F1, hb⟩ := F.ex
  rw [← hK] at hk F1 hb
  refine PE.imp (pe_callS F1 hr hg hm hk hb (fun σ => passAt tk σ) ha hdb he hpl) fun σ H Q ⟨G, env, r, q⟩ => ?_
  exact bind_post r q fun d e1 vs H1 G1 em r1 rv s1 f1 q1 => call_post r1 rv q1
/-- all given away -/
def RAP (κ : Kx) : Rl (List D) (List V) := fun _ _ _ G _ vs ds => RpA κ G vs ds
instance : RlMono (RAP κ) := ⟨fun _ q => q⟩
theorem callI_post {σ : L2.St} {H : Hp} {G : Gh} {env : En} {us : List V} {v : V} {ds : List D} {i q0 : Nat} {s : Sl} {o : O} {Q : VK} (r : Rep κ H G σ env) (ei : env[i]? = some s) (hs : getO s = some o) (ev : σ[i]? = some (some v)) (hp : q0 ≤ ms.length) (rv : RBx κ H G (G.fp i) ms us ds) (q : EPostI κ W (RV κ) σ H G env (match gI o ds with
  | some (.rt r o') => some (.ok r (env.set i (setO s o')))
  | some (.ex x o') => some (.ex x (env.set i (setO s o')))
  | none => none) Q) : spI κ q0 ms gI (insA q0 v us) H Q (WE W σ) := by
  obtain ⟨v', h1, ro⟩ := (r.slot i s ei).th (getO_th hs).1
  rw [ev] at h1
  cases h1
  refine ⟨G.g, v, us, ds, o, G.fp i, rfl, hp, r.sub, ro, rv, ?_⟩
  have gr : ∀ {H' G' : Hp} {o' : O} {F' : List Addr}, Chg κ H G (G.fp i) H' G' → RO κ H' G' v o' F' → (∀ a, a ∈ F' → a ∈ G.fp i ∨ H a = none) → Rep κ H' ⟨G', (G.put i F').fp⟩ σ (env.set i (setO s o')) ∧ Fr H G σ env H' ⟨G', (G.put i F').fp⟩ σ (env.set i (setO s o')) := fun {H' G' o' F'} c ro' hF =>
    r.chgG ei (getO_th hs).2 (getO_th hs).1 setO_th.1 (setO_was hs) setO_th.2 ev c.gk c.sub c.gn ro' c.hk hF
  cases z : gI o ds with
  | none => rw [z] at q; exact q
  | some w => cases w with
    | rt y o' =>
      rw [z] at q
      intro u H' G' F' c ro' hF rf
      obtain ⟨r1, f1⟩ := gr c ro' hF
      refine q u H' _ r1 ?_ f1
      have fre : ∀ a, (a ∈ G.fp i ∨ H a = none) → a ∉ F' → Fre ⟨G', (G.put i F').fp⟩ (env.set i (setO s o')) a ∧ Nw H G env a := fun a ha nF => by
        refine ⟨fun j t e m => ?_, fun o2 h => ?_⟩
        · have m : a ∈ (G.put i F').fp j := m
          rcases set_look e with ⟨rfl, rfl⟩ | ⟨w, e2⟩
          · rw [put_at] at m; exact nF m
          · rw [put_ne w] at m
            rcases ha with ha | ha
            · exact w (r.inj i j a t ⟨s, o, ei, (getO_th hs).1, ha⟩ e2 m)
            · obtain ⟨z, hz⟩ := r.live e2 m
              rw [ha] at hz
              cases hz
        · rcases ha with ha | ha
          · exact ⟨i, s, ei, (getO_th hs).2, ha⟩
          · rw [ha] at h; cases h
      cases y with
      | sh d => exact rf
      | ow l =>
        obtain ⟨a, xs, h1, h2, h3, h4, h5, h6⟩ := rf
        exact ⟨a, xs, h1, h4, h5, h6, (fre a h2 h3).1, (fre a h2 h3).2⟩
      | tr o2 =>
        obtain ⟨F2, h1, h2⟩ := rf
        exact ⟨F2, h1, fun a m => fre a (h2 a m).1 (h2 a m).2⟩
    | ex y o' =>
      rw [z] at q
      intro c d H' G' F' ch ro' hF xr
      obtain ⟨r1, f1⟩ := gr ch ro' hF
      exact q c d H' _ r1 xr f1
end
def fM2 (f : List Nat → D → D → Option Rs) (mo me me2 : Sm D) : Sm Rs := bnd mo fun x => match x with
  | .str w => bnd me fun y => bnd me2 fun y2 e => match f w y y2 with
    | some z => some (.ok z e)
    | none => none
  | _ => fun _ => none
def opFind3 : List Nat → D → D → Option Rs
  | a, .str b, .int i => some (.sh (.int (Txt.find3 (S a) (S b) i)))
  | _, _, _ => none
def opStarts3 : List Nat → D → D → Option Rs
  | a, .str b, .int i => some (.sh (.bl (Txt.startswith3 (S a) (S b) i)))
  | _, _, _ => none
section
variable {X : Cx} {κ : Kx} {W : WX} {o e e2 : Expr} {mo me me2 : Sm D} {pos apos : Pos}
theorem m2_tr {r : V → List V → Hp → VK → Prop} {f : List Nat → D → D → Option Rs} (hs : ∀ (w b : List Nat) (i : Int) (z : Rs) (Q : VK) (H : Hp) (G : Gh) (σ : L2.St) (env : En), f w (.str b) (.int i) = some z → Rep κ H G σ env → EPost κ W (RV κ) σ H G env (some (.ok z env)) Q → r (.str (S w)) [.str (S b), .int i] H Q) (hn : ∀ w x y z, f w x y = some z → ∃ b i, x = .str b ∧ y = .int i)
    {σ : L2.St} {H : Hp} {Q : VK} (h : tX κ W (RV κ) (fM2 f mo me me2) σ H Q) : tBM κ.K "str" r (tX κ W (RB κ) mo) (tCons (tX κ W (RB κ) me) (tCons (tX κ W (RB κ) me2) tNil)) σ H Q := by
  obtain ⟨G, env, rp, q⟩ := h
  refine bind_post rp q fun dx e1 x H1 G1 _ rp1 rx s1 f1 q1 => ?_
  cases dx with
  | str w =>
    rw [RBq.str rx]
    refine ⟨rfl, ?_⟩
    refine bind_post rp1 q1 fun dy e2 y H2 G2 _ rp2 ry s2 f2 q2 => ?_
    refine bind_post rp2 q2 fun dz e3 u H3 G3 _ rp3 ru s3 f3 q3 => ?_
    cases z : f w dy dz with
    | none => rw [z] at q3; exact q3.elim
    | some v =>
      rw [z] at q3
      obtain ⟨b, i, rfl, rfl⟩ := hn _ _ _ _ z
      rw [RBq.str ry, RBq.int ru]
      exact hs w b i v Q H3 G3 σ e3 z rp3 q3
  | _ => exact q1.elim
theorem v_find3 (hK : X.K = κ.K := by rfl) (ho : PE X o (tX κ W (RB κ) mo)) (he : PE X e (tX κ W (RB κ) me)) (he2 : PE X e2 (tX κ W (RB κ) me2)) (hbase : attributeBase o "find" X.env (eval o X.env) = eval o X.env := by rfl)
    (hfew : ((backTo pos (starEach [e, e2] X.env)).all (fun x => !x.1) && (backToKw pos (keywordEach [] X.env)).all (fun x => x.1.isSome)
      && decide (([e, e2] : List Expr).length + ([] : List Keyword).length + (if ([] : List Keyword).isEmpty then 0 else 1) < 30)) = true := by rfl)
    (hline : (apos.endLine == pos.line) = true := by rfl) (hs : starEach [e, e2] X.env = (false, eval e X.env) :: starEach [e2] X.env := by rfl) (hs2 : starEach [e2] X.env = (false, eval e2 X.env) :: starEach [] X.env := by rfl) (hplain : (backTo pos (starEach [e2] X.env)).any (·.1) = false := by rfl) :
    PE X (.Call (.Attribute o "find" apos) [e, e2] [] pos) (tX κ W (RV κ) (fM2 opFind3 mo me me2)) := PE.imp (pe_bm PySem.F.plainAttrs_str PySem.F.slot_str_find PySem.F.type_str_find mt_find3 ho (pa_cons he (pa_cons he2 pa_nil hs2) hs) hbase hfew hline hs hplain) fun σ H Q h => by
  rw [hK]
  refine m2_tr (fun w b i z Q H G σ env e r q => ?_) (fun w x y z e => ?_) h
  · cases e
    exact ⟨_, _, _, rfl, rfl, post_sh r (.int _) q⟩
  · unfold opFind3 at e
    split at e
    · exact ⟨_, _, rfl, rfl⟩
    · cases e
theorem v_starts3 (hK : X.K = κ.K := by rfl) (ho : PE X o (tX κ W (RB κ) mo)) (he : PE X e (tX κ W (RB κ) me)) (he2 : PE X e2 (tX κ W (RB κ) me2)) (hbase : attributeBase o "startswith" X.env (eval o X.env) = eval o X.env := by rfl)
    (hfew : ((backTo pos (starEach [e, e2] X.env)).all (fun x => !x.1) && (backToKw pos (keywordEach [] X.env)).all (fun x => x.1.isSome)
      && decide (([e, e2] : List Expr).length + ([] : List Keyword).length + (if ([] : List Keyword).isEmpty then 0 else 1) < 30)) = true := by rfl)
    (hline : (apos.endLine == pos.line) = true := by rfl) (hs : starEach [e, e2] X.env = (false, eval e X.env) :: starEach [e2] X.env := by rfl) (hs2 : starEach [e2] X.env = (false, eval e2 X.env) :: starEach [] X.env := by rfl) (hplain : (backTo pos (starEach [e2] X.env)).any (·.1) = false := by rfl) :
    PE X (.Call (.Attribute o "startswith" apos) [e, e2] [] pos) (tX κ W (RV κ) (fM2 opStarts3 mo me me2)) := PE.imp (pe_bm PySem.F.plainAttrs_str PySem.F.slot_str_startswith PySem.F.type_str_startswith mt_startswith3 ho (pa_cons he (pa_cons he2 pa_nil hs2) hs) hbase hfew hline hs hplain) fun σ H Q h => by
  rw [hK]
  refine m2_tr (fun w b i z Q H G σ env e r q => ?_) (fun w x y z e => ?_) h
  · cases e
    exact ⟨_, _, _, rfl, rfl, post_sh r (.bl _) q⟩
  · unfold opStarts3 at e
    split at e
    · exact ⟨_, _, rfl, rfl⟩
    · cases e
end
theorem spV_len {κ : Kx} {ms : List Bool} {g : FSem} {vs : List V} {H : Hp} {Q : VK} {E : XK} (h : spV κ ms g vs H Q E) : vs.length = ms.length := by
  obtain ⟨G, ds, _, r, _⟩ := h
  exact r.len.1
theorem insA_length {α : Type} (x : α) (p : Nat) (l : List α) : (insA p x l).length = l.length + 1 := insA_len x p l
theorem spI_len {κ : Kx} {p : Nat} {ms : List Bool} {g : FSemI} {vs : List V} {H : Hp} {Q : VK} {E : XK} (h : spI κ p ms g vs H Q E) : vs.length = ms.length + 1 := by
  obtain ⟨G, v, us, ds, o, F, rfl, _, _, _, r, _⟩ := h
  rw [insA_len, r.len.1]
/-! ### the row's end -/
def spLaw (K : PySem.W.Frag) : Sp := fun vs H Q _ => ∃ (a : Addr) (ns : List Int), vs = [.ref a] ∧ SqL K H a (ns.map V.int) ∧ ns.length ≤ 63 ∧ (∀ z ∈ ns, Builtin.Int.intBits z ≤ 1048576) ∧ ∀ H', Q (.bl true) H'
/-- the law's function tells True of every script -/
def LawTrue (g : FSem) : Prop := ∀ ns : List Int, ns.length ≤ 63 → (∀ z ∈ ns, Builtin.Int.intBits z ≤ 1048576) → g [.scr ns] = some (.rt (.sh (.bl true)))
open Classical in
/-- a heap without its tables -/
noncomputable def noTb (H : Hp) : Hp := fun a => if (∃ ps, H a = some (.tbl ps)) then none else H a
theorem noTb_at {H : Hp} {a : Addr} {o : HO} (h : H a = some o) (n : nt o) : noTb H a = some o := by
  unfold noTb
  rw [if_neg]
  · exact h
  · rintro ⟨ps, e⟩
    rw [h] at e
    exact n ps (Option.some.inj e)
theorem noTb_of {H : Hp} {a : Addr} {o : HO} (h : noTb H a = some o) : H a = some o ∧ nt o := by
  unfold noTb at h
  split at h
  · cases h
  · rename_i z
    exact ⟨h, fun ps e => z ⟨ps, by rw [h, e]⟩⟩
theorem law_spT {κ : Kx} {g : FSem} {m : Bool} (hg : LawTrue g) (vs : List V) (H : Hp) (Q : VK) (E : XK) (ht : LamX.Tabs κ.tb H) (h : spLaw κ.K vs H Q E) : spV κ [m] g vs H Q E := by
  obtain ⟨a, ns, rfl, hs, hl, hb, k⟩ := h
  have hs' : SqL κ.K (noTb H) a (ns.map V.int) := hs.imp (fun r => by
    rcases r with r | ⟨o, r⟩
    · exact .inl (noTb_at r fun _ z => nomatch z)
    · exact .inr ⟨o, noTb_at r fun _ z => nomatch z⟩) id
  have rp : Rp κ (noTb H) (.ref a) (.scr ns) := .scr hs'
  refine ⟨noTb H, [.scr ns], ⟨fun b o e => (noTb_of e).1, fun b o e => (noTb_of e).2, ht⟩, ?_, ?_⟩
  · cases m with
    | true => exact .bo (.inl rp) .nil
    | false => exact .sh rp .nil
  · rw [hg ns hl hb]
    intro v H' G' _ _ _ _ r
    cases r
    exact k H'
theorem law_sp {κ : Kx} {g : FSem} {m : Bool} (hg : LawTrue g) (vs : List V) (H : Hp) (Q : VK) (E : XK) (h : spLaw κ.K vs H Q E) (ht : κ.tb = [] := by rfl) : spV κ [m] g vs H Q E :=
  law_spT hg vs H Q E (by rw [ht]; exact fun p hp => by cases hp) h
theorem cx_out {P : Program} {w : World} {H : Hp} {s : Shared} {e : Value} {s' : Shared} (h : L2.CX P w [] H s (fun _ _ _ => False) e s') : False := by
  obtain ⟨_, _, _, _, _, _, _, _, _, _, _, _, z⟩ := h
  exact z.elim
theorem walk_law {l : PySem.W.OpenLaw} {x : Str} {k : Nat} {q : Program} {loose : List Str} {XP : (Str → Option Value) → Heap → Prop} {YP : World → Heap → Prop} {d : DefRec} {K : Params → PySem.W.Frag} (hn : l.most = some 63) (hdf : d.params.defaults = []) (hr : Room k PySem.callerA)
    (hY : ∀ (w : World) (h : Heap), YP w h → (K w.params).In h)
    (F : ∀ (w : World) (mg : Str → Option Value) (fa : Addr) (h : Heap), (K w.params).In h → h.Ns mainGlobals mg → mg d.name = some (.ref fa) →
      ∃ fd : FuncData, (∀ (s : Shared) (u : Value), BindsTo s fd ⟨[u], []⟩ [(x, u)]) ∧ ∀ base : Heap, (K w.params).In base → base.Ns mainGlobals mg → FnOk l.prog w (K w.params) mg base (L2.CX l.prog w) k fa fd [x] (spLaw (K w.params))) :
    PySem.W.WalkO q loose XP YP l.row.toRowW d [] (fun f vs => PySem.call f vs) :=
  L2.walk_ofB (n := 63) (k := k) (x := x) (CX := fun w => L2.CX l.prog w) (sp := fun w => spLaw (K w.params)) hn (by decide) hdf hr hY F (fun _ _ a ns hl hb _ hS => ⟨a, ns, rfl, hS, hl, hb, fun _ => rfl⟩) fun _ _ _ _ _ z => cx_out z
end Vs

set_option Elab.async false
set_option linter.all false
set_option maxRecDepth 100000
set_option maxHeartbeats 2000000
/-! Vs2: comprehensions. -/
namespace Vs
open PySem L2
abbrev WF : WX := fun _ _ _ _ => False
def unE : List Nat → En → En
  | [], e => e
  | v :: vs, e => (unE vs e).set v .un
def unG : List Nat → Gh → Gh
  | [], G => G
  | v :: vs, G => (unG vs G).put v []
theorem unG_g : ∀ (vs : List Nat) (G : Gh), (unG vs G).g = G.g
  | [], _ => rfl
  | v :: vs, G => unG_g vs G
def UnAt (vs : List Nat) (env : En) : Prop := ∀ v ∈ vs, ∀ s, env[v]? = some s → s = .un
def Off (vs : List Nat) (σ σ' : L2.St) : Prop := ∀ j, j ∉ vs → σ[j]? = σ'[j]?
theorem Off.symm {vs : List Nat} {σ σ' : L2.St} (o : Off vs σ σ') : Off vs σ' σ := fun j h => (o j h).symm
theorem off_wipe {vs : List Nat} {σ : L2.St} : Off vs σ (wipe σ vs) := fun j h => (wipe_out h).symm
theorem wipe_in {σ : L2.St} {j : Nat} : ∀ {vs : List Nat}, j ∈ vs → (wipe σ vs)[j]? = if j < σ.length then some none else none
  | v :: vs, h => by
    unfold wipe
    by_cases e : v = j
    · subst e
      by_cases hl : v < σ.length
      · rw [if_pos hl, List.getElem?_set_self (by rw [wipe_length]; exact hl)]
      · rw [if_neg hl, List.getElem?_eq_none (by rw [List.length_set, wipe_length]; omega)]
    · rw [List.getElem?_set_ne e]
      exact wipe_in ((List.mem_cons.mp h).resolve_left fun w => e w.symm)
theorem wipe_eq {vs : List Nat} {σ σ' : L2.St} (o : Off vs σ σ') (l : σ'.length = σ.length) : wipe σ' vs = wipe σ vs := by
  refine List.ext_getElem? fun j => ?_
  by_cases h : j ∈ vs
  · rw [wipe_in h, wipe_in h, l]
  · rw [wipe_out h, wipe_out h, o j h]
section
variable {κ : Kx} {H H' : Hp} {G G' : Gh} {σ σ' τ τ' : L2.St} {env env' : En} {vs : List Nat} {a L : Addr}
theorem unE_len : ∀ vs : List Nat, (unE vs env).length = env.length
  | [] => rfl
  | v :: vs => by unfold unE; rw [List.length_set, unE_len vs]
theorem unE_at : ∀ vs : List Nat, UnAt vs (unE vs env)
  | [], v, h, _, _ => nomatch h
  | v :: vs, w, h, s, e => by
    unfold unE at e
    rcases set_look e with ⟨_, q⟩ | ⟨q, e2⟩
    · exact q
    · exact unE_at vs w ((List.mem_cons.mp h).resolve_left fun z => q z.symm) s e2
theorem Rep.drop1 (r : Rep κ H G σ env) (i : Nat) : Rep κ H (G.put i []) σ (env.set i .un) := by
  have back : ∀ {j : Nat} {b : Addr}, Own (G.put i []) (env.set i .un) j b → Own G env j b ∧ i ≠ j := fun {j b} ⟨u, o', e', t', m⟩ => by
    rcases set_look e' with ⟨rfl, rfl⟩ | ⟨w, e2⟩
    · cases t'
    · rw [put_ne w] at m
      exact ⟨⟨u, o', e2, t', m⟩, w⟩
  refine ⟨r.sub, by rw [List.length_set]; exact r.len, fun j s e => ?_, fun j k b t ow e m => ?_⟩
  · rcases set_look e with ⟨rfl, rfl⟩ | ⟨w, e2⟩
    · exact put_at
    · show RSl κ H G.g _ ((G.put i []).fp j) s
      rw [put_ne w]
      exact r.slot j s e2
  · rcases set_look e with ⟨rfl, rfl⟩ | ⟨w, e2⟩
    · rw [put_at] at m; cases m
    · rw [put_ne w] at m
      exact r.inj j k b t (back ow).1 e2 m
theorem Fr.drop1 (i : Nat) : Fr H G σ env H (G.put i []) σ (env.set i .un) := Fr.same (Grw.refl _) (Same.refl _) (fun _ _ _ h _ => h) (fun b o h ⟨j, s, e, hm, m⟩ => by
    rcases set_look e with ⟨rfl, rfl⟩ | ⟨w, e2⟩
    · cases hm
    · rw [put_ne w] at m
      exact ⟨j, s, e2, hm, m⟩) fun j s hf e => by
  rcases set_look e with ⟨rfl, rfl⟩ | ⟨w, e2⟩
  · cases hf
  · exact ⟨e2, put_ne w⟩
theorem Rep.unE (r : Rep κ H G σ env) : ∀ vs : List Nat, Rep κ H (unG vs G) σ (unE vs env)
  | [] => r
  | v :: vs => (Rep.unE r vs).drop1 v
theorem Fr.unE : ∀ vs : List Nat, Fr H G σ env H (unG vs G) σ (unE vs env)
  | [] => Fr.refl
  | v :: vs => (Fr.unE vs).trans (Fr.drop1 v)
theorem un_off {i : Nat} {s : Sl} (u : UnAt vs env) (o : Off vs σ σ') (e : env[i]? = some s) (h : s ≠ .un) : σ[i]? = σ'[i]? := o i fun m => h (u i m s e)
theorem Rep.off (u : UnAt vs env) (o : Off vs σ σ') (hl : σ'.length = σ.length) (r : Rep κ H G σ env) : Rep κ H G σ' env := by
  refine ⟨r.sub, hl.trans r.len, fun i s e => ?_, r.inj⟩
  by_cases h : s = .un
  · subst h; exact r.slot i _ e
  · rw [← un_off u o e h]
    exact r.slot i s e
theorem fix_un {s : Sl} (h : s.fix = true) : s ≠ .un := fun z => by subst z; cases h
theorem Fr.offL (u : UnAt vs env) (o : Off vs σ σ') (f : Fr H G σ env H' G' τ env') : Fr H G σ' env H' G' τ env' where
  hk := f.hk
  gk := f.gk
  gn := f.gn
  mm := f.mm
  lk := fun i s hf e => by
    obtain ⟨s0, e1, w, e2, e3⟩ := f.lk i s hf e
    exact ⟨s0, e1, w, e2.trans (un_off u o e1 (fix_un (was_fix hf w))), e3⟩
theorem Fr.offR (u : UnAt vs env') (o : Off vs τ τ') (f : Fr H G σ env H' G' τ env') : Fr H G σ env H' G' τ' env' where
  hk := f.hk
  gk := f.gk
  gn := f.gn
  mm := f.mm
  lk := fun i s hf e => by
    obtain ⟨s0, e1, w, e2, e3⟩ := f.lk i s hf e
    exact ⟨s0, e1, w, (un_off u o e (fix_un hf)).symm.trans e2, e3⟩
/-- a list in no slot stays so -/
theorem Fre.keep {u : HO} (r : Rep κ H G σ env) (r' : Rep κ H' G' σ' env') (f : Fr H G σ env H' G' σ' env') (h : H L = some u) (g0 : G.g L = none) (p : Fre G env L) : Fre G' env' L := fun i s e m => by
  have nm : ¬ Mt G env L := fun ⟨j, t, e2, _, m2⟩ => p j t e2 m2
  by_cases hm : s.mut = true
  · exact nm (f.mm L u h ⟨i, s, e, hm, m⟩)
  · have hm' : s.mut = false := by simpa using hm
    by_cases hf : s.fix = true
    · obtain ⟨s0, e1, w, _, e3⟩ := f.lk i s hf e
      have q := was_eq hm' hf w
      subst q
      rw [e3 rfl hm'] at m
      exact p i _ e1 m
    · have q := r'.slot i s e
      cases s with
      | un => rw [show G'.fp i = [] from q] at m; cases m
      | sh d => rw [q.1] at m; cases m
      | lk l => exact hf rfl
      | bo l => exact hf rfl
      | ow l => exact hm rfl
      | io o => exact hm rfl
      | tr o => exact hm rfl
theorem Fre.mt (p : Fre G env L) : ¬ Mt G env L := fun ⟨j, t, e2, _, m2⟩ => p j t e2 m2
/-- the list that is made -/
structure DA (κ : Kx) (H : Hp) (G : Gh) (env : En) (L : Addr) (acc : List D) (xs : List V) : Prop where
  h : H L = some (.lst xs)
  g : G.g L = none
  r : RpA κ G xs acc
  f : Fre G env L
theorem DA.keep {acc : List D} {xs : List V} (r : Rep κ H G σ env) (r' : Rep κ H' G' σ' env') (d : DA κ H G env L acc xs) (s : Grw H H') (f : Fr H G σ env H' G' σ' env') : DA κ H' G' env' L acc xs :=
  ⟨s.at d.h, f.gn L _ d.h d.g d.f.mt, d.r.mono f.gk, d.f.keep r r' f d.h d.g⟩
theorem Rep.updD {acc : List D} {xs ys : List V} (r : Rep κ H G σ env) (d : DA κ H G env L acc xs) : Rep κ (upd H L (.lst ys)) G σ env := by
  have ne : ∀ {i : Nat} {s : Sl} {b : Addr}, env[i]? = some s → b ∈ G.fp i → b ≠ L := fun {i s b} e m z => d.f i s e (z ▸ m)
  refine ⟨⟨same_upd r.sub.s d.g, r.sub.n, tabs_of r.sub.t fun a o e np => by
    by_cases z : a = L
    · rw [z, d.h] at e
      cases e
      exact (np ⟨(fun _ z => nomatch z), (fun _ z => nomatch z)⟩).elim
    · rw [upd_ne z]
      exact e⟩, r.len, fun i s e => ?_, r.inj⟩
  have t := r.slot i s e
  have th : ∀ {o : O}, s.th = some o → RSl κ (upd H L (.lst ys)) G σ[i]? (G.fp i) s := fun {o} z => by
    obtain ⟨x, h1, h2⟩ := t.th z
    exact .of z h1 (h2.grow (Same.refl _) (fun b u m h => by rw [upd_ne (ne e m)]; exact h) fun b m => (h2.own m).2)
  cases s with
  | un => exact t
  | sh x => exact t
  | ow m => exact th rfl
  | lk m => exact th rfl
  | io m => exact th rfl
  | tr m => exact th rfl
  | bo m =>
    obtain ⟨b, zs, t1, t2, t4, t5⟩ := t
    exact ⟨b, zs, t1, by rw [upd_ne (ne e (by rw [t5]; exact List.mem_singleton_self b))]; exact t2, t4, t5⟩
theorem Fr.updD {u : HO} (h : H L = none) (f : Fr H G σ env H' G' σ' env') : Fr H G σ env (upd H' L u) G' σ' env' where
  hk := fun a o e n => by rw [upd_ne (ne_of_none e h)]; exact f.hk a o e n
  gk := f.gk
  gn := f.gn
  mm := f.mm
  lk := f.lk
end
/-- a target whose names are the comprehension's own -/
def TgOff (κ : Kx) (vs : List Nat) (g : TG) (f : D → En → Option En) : Prop := ∀ (v : V) (d : D) (σ : L2.St) (H : Hp) (G : Gh) (env e1 : En) (Q : L2.St → Hp → Prop), f d env = some e1 → Rep κ H G σ env → Rp κ G v d → (∀ σ1 G1, Rep κ H G1 σ1 e1 → Fr H G σ env H G1 σ1 e1 → Off vs σ σ1 → σ1.length = σ.length → Q σ1 H) → g v σ H Q
section
variable {κ : Kx} {vs : List Nat}
theorem off_set {σ : L2.St} {i : Nat} {x : Option V} (h : i ∈ vs) : Off vs σ (σ.set i x) := fun j n => by
  rw [List.getElem?_set_ne (fun z : i = j => n (z ▸ h))]
theorem to_name (i : Nat) (hi : (vs.elem i) = true) : TgOff κ vs (gName i) (tgN i) := fun v d σ H G env e1 Q e r h q => by
  have hi := List.mem_of_elem_eq_true hi
  unfold tgN at e
  by_cases hl : i < env.length
  · rw [if_pos hl] at e
    cases e
    obtain ⟨G1, _, a, b⟩ := rep_sh r hl h
    exact q _ G1 a b (off_set hi) (List.length_set ..)
  · rw [if_neg hl] at e; cases e
theorem tos_names : ∀ (is : List Nat) (hi : ∀ i ∈ is, i ∈ vs) (us : List V) (ds : List D) (σ : L2.St) (H : Hp) (G : Gh) (env e1 : En) (Q : L2.St → Hp → Prop), setAll is ds env = some e1 → Rep κ H G σ env → RpA κ G us ds → (∀ σ1 G1, Rep κ H G1 σ1 e1 → Fr H G σ env H G1 σ1 e1 → Off vs σ σ1 → σ1.length = σ.length → Q σ1 H) → gNames is us σ H Q
  | [], _, us, ds, σ, H, G, env, e1, Q, e, r, h, q => by
    cases h with
    | nil => cases e; exact ⟨rfl, q σ G r Fr.refl (fun _ _ => rfl) rfl⟩
    | cons => cases e
  | i :: is, hi, us, ds, σ, H, G, env, e1, Q, e, r, h, q => by
    cases h with
    | nil => cases e
    | cons h t =>
      dsimp only [setAll] at e
      split at e
      · rename_i hl
        obtain ⟨G1, eg, a, b⟩ := rep_sh r hl h
        exact ⟨_, _, rfl, tos_names is (fun j m => hi j (List.mem_cons_of_mem _ m)) _ _ _ H G1 _ e1 Q e a (by rw [eg]; exact t) fun σ1 G2 r1 f1 o1 l1 => q σ1 G2 r1 (b.trans f1) (fun j n => (off_set (hi i List.mem_cons_self) j n).trans (o1 j n)) (l1.trans (List.length_set ..))⟩
      · cases e
theorem to_tup (is : List Nat) {n : Nat} (hn : n = is.length) (hi : (is.all fun i => vs.elem i) = true) : TgOff κ vs (gTup κ.K n (gNames is)) (tgT is) := fun v d σ H G env e1 Q e r h q => by
  have hi : ∀ i ∈ is, i ∈ vs := fun i m => List.mem_of_elem_eq_true (List.all_eq_true.mp hi i m)
  subst hn
  cases h with
  | tup h t =>
    have e' : setAll is _ env = some e1 := e
    exact ⟨_, _, rfl, SqT.of (r.sub _ _ h), by rw [t.length, setAll_len e'], tos_names is hi _ _ σ H G env e1 Q e' r t q⟩
  | _ => cases e
end
def lcL (f : D → En → Option En) (tt : Sm Bool) (te : Sm D) (vs : List Nat) : List D → List D → Sm Rs
  | [], acc, e => some (.ok (.ow acc) e)
  | d :: ds, acc, e => match f d e with
    | none => none
    | some e1 => match tt e1 with
      | some (.ok true e2) => match te e2 with
        | some (.ok y e3) => lcL f tt te vs ds (acc ++ [y]) (unE vs e3)
        | _ => none
      | some (.ok false e2) => lcL f tt te vs ds acc (unE vs e2)
      | _ => none
def fLc (mi : Sm (List D)) (f : D → En → Option En) (tt : Sm Bool) (te : Sm D) (vs : List Nat) : Sm Rs := bnd mi fun ds e => if ds.length ≤ szl then lcL f tt te vs ds [] (unE vs e) else none
def tYs : Sm Bool := ret true
section
variable {X : Cx} {κ : Kx} {W : WX}
theorem lc_tr {wi : TI} {g : TG} {ttr : TT} {ter : TE} {vs : List Nat} {mi : Sm (List D)} {f : D → En → Option En} {tt : Sm Bool} {te : Sm D} {σ : L2.St} {H : Hp} {Q : VK}
    (hwi : ∀ σ H (P : It → Hp → Prop), tX κ W (RI κ) mi σ H P → wi σ H P) (hf : TgOff κ vs g f) (htt : ∀ σ H P, tX κ WF RT tt σ H P → ttr σ H P) (hte : ∀ σ H P, tX κ WF (RP κ) te σ H P → ter σ H P) (h : tX κ W (RV κ) (fLc mi f tt te vs) σ H Q) : tLc wi g ttr ter vs σ H Q := by
  obtain ⟨G, env, r, q⟩ := h
  refine hwi _ _ _ (bind_post r q fun ds e1 J H1 G1 em r1 rv s1 f1 q1 => ?_)
  obtain ⟨pr, hpr, yl⟩ := rv
  have hsz : ds.length ≤ szl := by
    by_cases hsz : ds.length ≤ szl
    · exact hsz
    · rw [if_neg hsz] at q1; exact q1.elim
  rw [if_pos hsz] at q1
  intro D hD
  have ow : Off vs σ (wipe σ vs) := off_wipe
  have lw : (wipe σ vs).length = σ.length := wipe_length σ vs
  let Inv0 : Nat → Hp → Prop := fun i H' => i ≤ ds.length ∧ ∃ G' env' acc xs, Rep κ H' G' (wipe σ vs) env' ∧ UnAt vs env' ∧ Fr H1 G1 σ e1 H' G' (wipe σ vs) env' ∧ DA κ H' G' env' D acc xs ∧ acc.length ≤ i ∧ Grw H1 H' ∧ EPost κ W (RV κ) σ H1 G1 e1 (lcL f tt te vs (ds.drop i) acc env') Q
  refine ⟨fun i m H' => m = ds.length - i ∧ Inv0 i H', ⟨ds.length, by simp, Nat.zero_le _, ?_⟩, ?_⟩
  · obtain ⟨st, rv⟩ := new_ow (xs := []) (l := []) r1 hD .nil
    obtain ⟨a0, xs0, e0, d1, d2, d3, d4, _⟩ := rv
    cases e0
    have u := unE_at (env := e1) vs
    have fu : Fr (upd H1 D (.lst [])) G1 σ e1 (upd H1 D (.lst [])) (unG vs G1) (wipe σ vs) (unE vs e1) := (Fr.unE vs).offR u ow
    have ru := (st.rep.unE vs).off u ow lw
    exact ⟨unG vs G1, unE vs e1, [], [], ru, u, st.fr.trans fu, ⟨upd_same, by rw [unG_g]; exact d2, .nil, d4.keep st.rep ru fu upd_same d2⟩, Nat.le_refl _, st.same, q1⟩
  rintro i m H2 ⟨rfl, hi2, G2, env2, acc, xs, r2, u2, fr2, da, al, sm, q2⟩
  have y := yl H2 G2 (fun a o pa e n => fr2.at e (hpr a pa)) fr2.gk r2.sub i
  by_cases hlt : i < ds.length
  · right
    have ed : ds[i]? = some ds[i] := List.getElem?_eq_getElem hlt
    have dr : ds.drop i = ds[i] :: ds.drop (i + 1) := (List.drop_eq_getElem_cons hlt)
    obtain ⟨go, yy⟩ := y.1 _ ed
    refine ⟨go, Inv0 (i + 1), fun H' h => ⟨ds.length - (i + 1), by omega, rfl, h⟩, fun x H3 hy => ?_⟩
    rw [dr] at q2
    dsimp only [lcL] at q2
    cases z : f ds[i] env2 with
    | none => rw [z] at q2; exact q2.elim
    | some e3 =>
      rw [z] at q2
      dsimp only at q2
      have item : ∃ G3 : Gh, Rep κ H3 G3 (wipe σ vs) env2 ∧ Fr H2 G2 (wipe σ vs) env2 H3 G3 (wipe σ vs) env2 ∧ Rp κ G3 x ds[i] ∧ Grw H2 H3 := by
        rcases yy x H3 hy with ⟨rfl, rx⟩ | ⟨T, ts, es, hT, rfl, rfl, e4, rx⟩
        · exact ⟨G2, r2, Fr.refl, rx, Grw.refl _⟩
        · have st := new_sh (o := .tup ts) r2 hT
          refine ⟨G2.up T (.tup ts), st.rep, st.fr, ?_, st.same⟩
          rw [e4]
          exact .tup upd_same (rx.mono (same_new (r2.sub.none hT)))
      obtain ⟨G3, r3, fr3, rx, s3⟩ := item
      refine hf x ds[i] (wipe σ vs) H3 G3 env2 e3 _ z r3 rx fun σ4 G4 r4 fr4 off4 len4 => ?_
      have off : Off vs σ σ4 := fun j n => (ow j n).trans (off4 j n)
      have len : σ4.length = σ.length := len4.trans lw
      refine ⟨wipe_eq off len, htt _ _ _ ⟨G4, e3, r4, ?_⟩⟩
      have da3 := (da.keep r2 r3 s3 fr3).keep r3 r4 (Grw.refl _) fr4
      have frA := (fr2.trans fr3).trans fr4
      have smA := sm.trans s3
      cases w : tt e3 with
      | none => rw [w] at q2; exact q2
      | some o => cases o with
        | ex x5 e5 => rw [w] at q2; exact q2.elim
        | ok b e5 =>
          rw [w] at q2
          intro b' H5 G5 r5 rb s5 fr5
          cases rb
          have da5 := da3.keep r4 r5 s5 fr5
          have frB := frA.trans fr5
          have back : ∀ {e : En}, Off vs σ4 (wipe σ vs) := fun {e} j n => (off j n).symm.trans (ow j n)
          cases b with
          | false =>
            rw [if_neg (by decide)]
            have u := unE_at (env := e5) vs
            have fu : Fr H5 G5 σ4 e5 H5 (unG vs G5) (wipe σ vs) (unE vs e5) := (Fr.unE vs).offR u (back (e := e5))
            have ru := (r5.unE vs).off u (back (e := e5)) (lw.trans len.symm)
            exact ⟨hlt, unG vs G5, unE vs e5, acc, xs, ru, u, frB.trans fu, da5.keep r5 ru (Grw.refl _) fu, by omega, smA.trans s5, q2⟩
          | true =>
            rw [if_pos rfl]
            dsimp only at q2
            refine hte _ _ _ ⟨G5, e5, r5, ?_⟩
            cases w6 : te e5 with
            | none => rw [w6] at q2; exact q2
            | some o6 => cases o6 with
              | ex x6 e6 => rw [w6] at q2; exact q2.elim
              | ok yd e6 =>
                rw [w6] at q2
                intro v H6 G6 r6 rv6 s6 fr6
                have da6 := da5.keep r5 r6 s6 fr6
                have u := unE_at (env := e6) vs
                have fu : Fr H6 G6 σ4 e6 H6 (unG vs G6) (wipe σ vs) (unE vs e6) := (Fr.unE vs).offR u (back (e := e6))
                have ru := (r6.unE vs).off u (back (e := e6)) (lw.trans len.symm)
                have da7 := da6.keep r6 ru (Grw.refl _) fu
                have hxs : xs.length = acc.length := da.r.length
                refine ⟨xs, da6.h, szl_lt (by omega), hlt, unG vs G6, unE vs e6, acc ++ [yd], xs ++ [v], ru.updD da7, u, ((frB.trans fr6).trans fu).updD hD, ⟨upd_same, da7.g, by rw [unG_g]; exact da6.r.append (.cons rv6 .nil), da7.f⟩, ?_, ?_, q2⟩
                · rw [List.length_append, List.length_singleton]; omega
                · intro a o e
                  rw [upd_ne (ne_of_none e hD)]
                  exact ((smA.trans s5).trans s6) a o e
  · left
    have e : i = ds.length := by omega
    subst e
    refine ⟨y.2 (Nat.le_refl _), ?_⟩
    rw [List.drop_length] at q2
    have ob : Off vs (wipe σ vs) σ := ow.symm
    exact q2 (.ref D) H2 G2 (r2.off u2 ob lw.symm) ⟨D, xs, rfl, da.h, da.g, da.r, da.f, fun o h => by rw [hD] at h; cases h⟩ sm (fr2.offR u2 ob)
variable {elt tg iter : Expr} {ifs : List Expr} {scope : Scope} {own : List (Str × Nat)} {pos spos py : Pos} {g : TG} {mi : Sm (List D)} {f : D → En → Option En} {tt : Sm Bool} {te : Sm D} {vs : List Nat}
theorem pts_yes : PTs X [] (tX κ WF RT tYs) := ⟨fun pins s σ H Q I ⟨G, env, r, q⟩ => pts_nil.run pins s σ H Q I (q true H G r rfl (Grw.refl _) Fr.refl)⟩
theorem v_lc (hc : X.calm = true) (hN : X.N.Nodup) (hv : vs = own.map (·.2)) (hi : PI X tg iter (tX κ W (RI κ) mi)) (ok : BlkOk X.N X.env.scope scope own)
    (hg : ∀ (s : Shared) (H : Hp) (C : Addr) (cl : List (Str × Addr)) (fp : List Addr), PG (X.blk s H scope (compEnvC scope cl C X.env) fp) tg g) (hf : TgOff κ vs g f) (ht : ∀ (s : Shared) (H : Hp) (C : Addr) (cl : List (Str × Addr)) (fp : List Addr), PTs (X.blk s H scope (compEnvC scope cl C X.env) fp) ifs (tX κ WF RT tt))
    (he : ∀ (s : Shared) (H : Hp) (C : Addr) (cl : List (Str × Addr)) (fp : List Addr), PE (X.blk s H scope (compEnvC scope cl C X.env) fp) elt (tX κ WF (RP κ) te)) (hs : ∀ x, foldedSetIterable iter X.env x = pure x := by intro _; rfl) :
    PE X (.ListComp elt [⟨tg, iter, ifs, 0⟩] scope pos) (tX κ W (RV κ) (fLc mi f tt te vs)) := by
  subst hv
  exact PE.imp (pe_lc hc hN hi ok hg ht he hs) fun σ H Q h => lc_tr (fun _ _ _ h => h) hf (fun _ _ _ h => h) (fun _ _ _ h => h) h
/-- an own list that is walked in an expression -/
def xLock (i : Nat) (m : Sm Rs) : Sm Rs := fun e => match e[i]? with
  | some (.ow l) => match m (e.set i (.lk l)) with
    | some (.ok r e1) => some (.ok r (unlk i e1))
    | some (.ex x e1) => some (.ex x (unlk i e1))
    | none => none
  | _ => m e
theorem lock_tr {i : Nat} {m : Sm Rs} {σ : L2.St} {H : Hp} {Q : VK} (h : tX κ W (RV κ) (xLock i m) σ H Q) : tX κ W (RV κ) m σ H Q := by
  obtain ⟨G, env, r, q⟩ := h
  unfold xLock at q
  split at q
  · rename_i l e
    refine ⟨G, _, r.locked e, ?_⟩
    cases w : m (env.set i (.lk l)) with
    | none => rw [w] at q; exact q
    | some o => cases o with
      | ex x e1 =>
        rw [w] at q
        exact fun c d H' G' r' xr s f => q c d H' G' r'.unlocked xr s (f.unlocked e)
      | ok z e1 =>
        rw [w] at q
        intro v H' G' r' rv s f
        exact q v H' G' r'.unlocked (rv_unlk (fun c n => lock_nw n) rv) s (f.unlocked e)
  · exact ⟨G, env, r, q⟩
theorem v_lock {i : Nat} {m : Sm Rs} {e : Expr} (h : PE X e (tX κ W (RV κ) m)) : PE X e (tX κ W (RV κ) (xLock i m)) := PE.imp h fun σ H Q q => lock_tr q
theorem s_lcm {i : Nat} {y : Str} {m : Sm Rs} (hm : ∀ σ H Q, tX κ W (RV κ) m σ H Q → tX κ W (RV κ) (fLc mi f tt te vs) σ H Q) (hc : X.calm = true) (hN : X.N.Nodup) (hv : vs = own.map (·.2)) (hy : X.N[i]? = some y) (hyl : X.env.scope.names.lookup y = some .local) (hsw : swapsWith (.ListComp elt [⟨tg, iter, ifs, 0⟩] scope pos) (some (.Name y py)) spos.line X.env = pure true) (hi : PI X tg iter (tX κ W (RI κ) mi)) (ok : BlkOk X.N X.env.scope scope own)
    (hg : ∀ (s : Shared) (H : Hp) (C : Addr) (cl : List (Str × Addr)) (fp : List Addr), PG (X.blk s H scope (compEnvC scope cl C X.env) fp) tg g) (hf : TgOff κ vs g f) (ht : ∀ (s : Shared) (H : Hp) (C : Addr) (cl : List (Str × Addr)) (fp : List Addr), PTs (X.blk s H scope (compEnvC scope cl C X.env) fp) ifs (tX κ WF RT tt))
    (he : ∀ (s : Shared) (H : Hp) (C : Addr) (cl : List (Str × Addr)) (fp : List Addr), PE (X.blk s H scope (compEnvC scope cl C X.env) fp) elt (tX κ WF (RP κ) te)) (hs : ∀ x, foldedSetIterable iter X.env x = pure x := by intro _; rfl) :
    PS X (.Assign [.Name y py] (.ListComp elt [⟨tg, iter, ifs, 0⟩] scope pos) spos) (tS κ W (sAsg i m)) := by
  subst hv
  refine PS.imp (ps_setLc hc hN hy hyl hsw hi ok hg ht he hs) fun D σ H ⟨G, env, r, q⟩ => ?_
  refine lc_tr (W := W) (fun _ _ _ h => h) hf (fun _ _ _ h => h) (fun _ _ _ h => h) (hm _ _ _ ⟨G, env, r, ?_⟩)
  unfold sAsg sbnd at q
  cases w : m env with
  | none => rw [w] at q; exact q
  | some o => cases o with
    | ex x e1 =>
      rw [w] at q
      exact fun c d H' G' a b _ g => q c d σ H' G' a b g
    | ok z e1 =>
      rw [w] at q
      intro v H1 G1 r1 rv s1 f1
      by_cases hl : i < e1.length
      · dsimp only at q
        rw [if_pos hl] at q
        obtain ⟨G2, r2, f2⟩ := put_all r1 hl rv f1
        exact q _ H1 G2 r2 f2
      · dsimp only at q
        rw [if_neg hl] at q; exact q.elim
theorem s_lc {i : Nat} {y : Str} : type_of% (@s_lcm X κ W elt tg iter ifs scope own pos spos py g mi f tt te vs i y (fLc mi f tt te vs) fun _ _ _ h => h) := @s_lcm X κ W elt tg iter ifs scope own pos spos py g mi f tt te vs i y (fLc mi f tt te vs) fun _ _ _ h => h
theorem s_lcL {i j : Nat} {y : Str} : type_of% (@s_lcm X κ W elt tg iter ifs scope own pos spos py g mi f tt te vs i y (xLock j (fLc mi f tt te vs)) fun _ _ _ h => lock_tr h) := @s_lcm X κ W elt tg iter ifs scope own pos spos py g mi f tt te vs i y (xLock j (fLc mi f tt te vs)) fun _ _ _ h => lock_tr h
end
end Vs

set_option Elab.async false
set_option linter.all false
set_option maxRecDepth 100000
set_option maxHeartbeats 2000000
/-! Vx: own errors with one field (turned from the worked proof 42). -/
namespace PySem
namespace LowX_NoWord
open PySem.W PySem.Calls PyProof.Rows PySem.HandSPX
/-! ### the text of __init__ -/
def iA (p1 p2 : Pos) : Arguments := { posonlyargs := [], args := [{ arg := "self", annotation := none, pos := p1 }, { arg := "place", annotation := none, pos := p2 }], vararg := none, kwonlyargs := [], kw_defaults := [], kwarg := none, defaults := [] }
def iB (q1 q2 q3 q4 : Pos) : List Stmt := [.Assign [.Attribute (.Name "self" q1) "place" q2] (.Name "place" q3) q4]
def iS : Scope := { kind := .function, names := [(PySem.Str.ofString "self", .local), (PySem.Str.ofString "place", .local)], isGenerator := false, isCoroutine := false, more := [] }
/-- what the written part says of Low, at C, and of its __init__, at fI -/
structure LowTxt (K : Frag) (mg : Str → Option Value) (C fI : Addr) : Prop where
  gC : mg "NoWord" = some (.ref C)
  cls : ∃ nm q N bs bm sn sub ab col dd k0 k1 k2 k3 k5, K.lookup C = some (excClassObj nm q C N bs bm true sn sub ab col dd k0 k1 k2 k3 k5 "ValueError.__new__") ∧ refsVE bm = true
  sa : findIn K (.ref C) "__setattr__" = some (some (.builtin "object.__setattr__"))
  ga : findIn K (.ref C) "__getattribute__" = some (some (.builtin "BaseException.__getattribute__"))
  gg : findIn K (.ref C) "__getattr__" = some none
  noN : findIn K (.ref C) "place" = some none
  iC : findIn K (.ref C) "__init__" = some (some (.ref fI))
  tC : typeIn K (.ref fI) = some (.type "function")
  kC : keepIn K (.ref C) = true
  exC : subIn K (.ref C) (.type "BaseException") = some true
  tyC : typeIn K (.ref C) = some (.type "type")
  hdC : hasDictIn K C = true
  te : exmOne K (.ref C) (.ref C) = some true
  fn : ∃ (oc : Value) (od : Option Addr) (doc pm : Value) (an : Option Addr) (cdv ct : Value) (osl : Array (Option Value)) (p1 p2 q1 q2 q3 q4 : Pos),
    K.lookup fI = some ⟨oc, od, .func (fnOf "__init__" "NoWord.__init__" (iA p1 p2) (iB q1 q2 q3 q4) iS .none .none doc pm an cdv ct), osl⟩ ∧ codeIn K cdv "NoWord.__init__" = true
theorem one_size (v : Value) : [v].length ≤ sizeLine := by
  rw [sizeLine_eq]
  exact (by decide : 1 ≤ 16777216)
theorem kept_but {K : Frag} {h h' : Heap} {x : Addr} (X : K.In h) (hx : K.lookup x = none) (k : ∀ b o, b ≠ x → h.get? b = some o → h'.get? b = some o) : K.In h' := fun a o e =>
  k a o (fun z => by rw [z, hx] at e; cases e) (X a o e)
theorem ldC {M : Model} {s : Shared} {name : Str} {scope : Scope} {L a : Addr} {cd : Value} {m : Str → Option Value} {x : Str} {pos : Pos} {v : Value} {Q : Value → Shared → Prop} {A : Around} {E : Value → Shared → Prop} (hn : s.heap.Ns L m) (hv : m x = some v) (h : Q v s)
    (hk : scope.kind = .function := by rfl) (hl : (envOfC name scope L a cd).kindOf x = some .local := by rfl) (hd : (x == ("__debug__" : Str)) = false := by decide) :
    wpAny M A (eval (.Name x pos) (envOfC name scope L a cd)) Q E s := wpAny_Name (wpAny_loadName_local hk hl hn hv h) hd
/-- what __init__ leaves of a fresh exception at x -/
structure InitEnd (h h' : Heap) (x C dx t1 : Addr) (v : Value) : Prop where
  keep : ∀ b o, b ≠ x → h.get? b = some o → h'.get? b = some o
  obj : h'.get? x = some { cls := .ref C, dict := some dx, data := .fields #[.ref t1, .none, .none, .none, .bool false, .none] }
  dbig : h.objs.size ≤ dx
  dne : dx ≠ x
  ns : h'.Ns1 dx (fun y => if y = "place" then some v else none)
/-- a made Low -/
structure OwnMade (h h' : Heap) (e C d : Addr) (v : Value) : Prop where
  keep : ∀ b o, h.get? b = some o → h'.get? b = some o
  new : h.objs.size ≤ e
  obj : ∃ oe vs, h'.get? e = some oe ∧ oe.cls = .ref C ∧ oe.dict = some d ∧ oe.data = .fields vs ∧ vs[1]? = some .none
  dbig : h.objs.size ≤ d
  dne : d ≠ e
  ns : h'.Ns1 d (fun y => if y = "place" then some v else none)
section
variable {prog : Program} {w : World} {A : Around} {E : Value → Shared → Prop} {R : Result → Shared → Prop} {s : Shared} {K : Frag} {mg : Str → Option Value} {C fI : Addr}
theorem low_init (T : LowTxt K mg C fI) {x t0 : Addr} {v : Value} (X : K.In s.heap) (hlim : s.heap.NoLimit) (hx : s.heap.get? x = some (excO C t0)) (hnx : K.lookup x = none) (hroom : A.depth < recursionLimit)
    (hq : ∀ h' tk dx, InitEnd s.heap h' x C dx t0 v → R (.ok (.ret .none)) { s with heap := h', toks := tk }) :
    codeAny (model prog w) A (.call (.ref fI) ⟨[.ref x, v], []⟩) R s := by
  obtain ⟨oc, od, doc, pm, an, cdv, ct, osl, p1, p2, q1, q2, q3, q4, ho, hcd⟩ := T.fn
  obtain ⟨nm, q, N, bs, bm, sn, sub, ab, col, dd, k0, k1, k2, k3, k5, hC, hbm⟩ := T.cls
  have hcl : clsIn K C = some { name := nm, bases := bs, mro := .ref C :: bm, ns := N, qualname := q, hasDict := true, slotNames := sn, subclasses := sub, abstract := ab, collection := col, hasDel := false } := by unfold clsIn; rw [hC] <;> rfl
  refine Att.call_fn (binds := [("self", .ref x), ("place", v)]) X hlim ho hcd hroom (BindsTo.of_eq (by first | rfl | with_unfolding_all rfl)) (by first | rfl | decide | with_unfolding_all rfl) (fun s₁ IC => ?_) rfl rfl rfl
  obtain ⟨h₁, tk₁, rfl⟩ := IC.toInCall.same
  have k : ∀ b o, s.heap.get? b = some o → h₁.get? b = some o := IC.toInCall.keep
  have hn := IC.toInCall.ns
  have hxL : s.heap.objs.size ≠ x := Nat.ne_of_gt (Heap.lt_size hx)
  have X₁ : K.In h₁ := X.keeps k
  have hx₁ := k _ _ hx
  -- self.by = by
  show wpAny _ _ (execs _ _) _ _ _
  refine wpAny_execs_cons (plainObj_wpAny_Assign_Attribute ?_)
  refine ldC (v := v) hn (by first | rfl | with_unfolding_all rfl | kernel_rfl) (ldC (v := .ref x) hn (by first | rfl | with_unfolding_all rfl | kernel_rfl) ?_)
  refine set_plain X₁ (ox := excO C t0) (od := none) ⟨hx₁, rfl, rfl, trivial⟩ T.sa ?_
  refine exc_osa X₁ hx₁ hcl (show refsVE (.ref C :: bm) = true from hbm) rfl T.noN (fun h₃ tk₃ dx k₃ dn dne hx₃ hn₃ => ?_)
  show wpAny _ _ (execs _ _) _ _ _
  have z : s.heap.objs.size < h₁.objs.size := hn.lt
  exact wpAny_execs_nil (hq h₃ tk₃ dx ⟨fun b o hb e => k₃ b o hb (k b o e), hx₃, Nat.le_of_lt (Nat.lt_of_lt_of_le z dn), dne, hn₃⟩)
theorem low_made (T : LowTxt K mg C fI) {v : Value} (X : K.In s.heap) (hlim : s.heap.NoLimit) (hroom : A.depth + 1 < recursionLimit)
    (hq : ∀ h' tk e d, OwnMade s.heap h' e C d v → R (.ok (.ret (.ref e))) { s with heap := h', toks := tk }) :
    codeAny (model prog w) A (.call (.ref C) ⟨[v], []⟩) R s := by
  obtain ⟨nm, q, N, bs, bm, sn, sub, ab, col, dd, k0, k1, k2, k3, k5, hC, hbm⟩ := T.cls
  obtain ⟨hp, g, dr, tk, os⟩ := s
  have k : ∀ b o, hp.get? b = some o → ((hp.push (kdv_tup [v])).push (excO C hp.objs.size)).get? b = some o := fun b o e => Heap.get?_push_of_some _ (Heap.get?_push_of_some _ e)
  have hget : ((hp.push (kdv_tup [v])).push (excO C hp.objs.size)).get? (hp.objs.size + 1) = some (excO C hp.objs.size) := by heap_get
  have hnx : K.lookup (hp.objs.size + 1) = none := by
    cases e : K.lookup (hp.objs.size + 1) with
    | none => rfl
    | some o =>
      have z : hp.get? (hp.objs.size + 1) = some o := X _ _ e
      exact absurd (Nat.lt_of_succ_lt (Heap.lt_size z)) (Nat.lt_irrefl _)
  refine call_own F.excBase_ValueError (fun X => refsVE_contains X bm hbm) (X _ _ hC) (looks_findIn X T.iC) (fun self => bind_fn X self T.tC) (one_size v) ?_
  refine low_init (s := ⟨(hp.push (kdv_tup [v])).push (excO C hp.objs.size), g, dr, tk, os⟩) T (X.keeps k) (hlim.keeps k) hget hnx ?_ fun h' tk' dx ⟨k', hx, dn, dne, hns⟩ => ?_
  · show A.depth + 1 < recursionLimit
    exact hroom
  · have old : ∀ b o, hp.get? b = some o → h'.get? b = some o := fun b o e => k' b o (Nat.ne_of_lt (Nat.lt_succ_of_lt (Heap.lt_size e))) (k b o e)
    have z : hp.objs.size + 1 + 1 ≤ dx := by
      first
        | (simpa only [Heap.size_push] using dn)
        | exact dn
        | (have q := dn; rw [Heap.size_push, Heap.size_push] at q; exact q)
    exact ⟨rfl, hq h' tk' (hp.objs.size + 1) dx ⟨old, Nat.le_succ _, ⟨_, _, hx, rfl, rfl, rfl, rfl⟩, Nat.le_trans (Nat.le_trans (Nat.le_succ _) (Nat.le_succ _)) z, dne, hns⟩⟩
end
end LowX_NoWord
end PySem
namespace L2
open PySem PySem.Spec PyProof.Rows
theorem relO_low_NoWord {v : V} {v' : Value} (r : RelV v v') (f : Str) : RelO (List.lookup f [(("place" : Str), v)]) (if f = "place" then some v' else none) := by
  by_cases hw : f = "place"
  · subst hw
    rw [if_pos rfl]
    have q : List.lookup ("place" : Str) [(("place" : Str), v)] = some v := by simp [List.lookup]
    rw [q]
    exact r
  · rw [if_neg hw]
    have qw : (f == ("place" : Str)) = false := by simpa using hw
    have q2 : List.lookup f [(("place" : Str), v)] = none := by simp [List.lookup, qw]
    rw [q2]
    trivial
section
variable {X : Cx} {C fI : Addr}
/-- Low(e) -/
def tMkLow_NoWord (C : Addr) (ta : TA) : St → Hp → XK → Prop := fun σ H Q => ta σ H fun vs H1 => ∃ v, vs = [v] ∧ ∀ d, H1 d = none → Q (.ref C) (some d) (upd H1 d (.xd [(("place" : Str), v)]))
theorem pmk_low_NoWord {a : Expr} {ta : TA} {p pos : Pos} {k : Nat} (T : PySem.LowX_NoWord.LowTxt X.K X.mg C fI) (hr : Room k X.A) (ha : PA X [a] ta) (hg : Gl X "NoWord" := by rfl)
    (he : starEach (a :: []) X.env = (false, eval a X.env) :: starEach [] X.env := by rfl) (hpl : (backTo pos (starEach [] X.env)).any (·.1) = false := by rfl) :
    PMk X (.Call (.Name "NoWord" p) [a] [] pos) (tMkLow_NoWord C ta) := by
  intro pins s σ H Q I h
  refine wpAny_Call_Name_kw (ld_glob I hg T.gC ?_)
  refine PySem.W.callWith_K (h₀ := X.base) I.ok.mod.kin T.kC (thn (ha.run pos pins s σ H _ I h) fun us s1 hh => ?_) he hpl
  obtain ⟨vs, H1, I1, r1, v, ev, q1⟩ := hh
  subst ev
  refine ⟨I1.kIn, ?_⟩
  cases r1 with
  | cons rv rn =>
    rename_i v' us'
    cases rn
    show wpAny _ _ (call (.ref C) [v']) _ _ _
    have hlim := I1.nolimit
    obtain ⟨hp, g, dr, tk, os⟩ := s1
    refine wpAny_call (PySem.LowX_NoWord.low_made T I1.kIn hlim (by have := hr.dp; omega) fun h' tk' e d M => ?_)
    show MkP X pins σ Q (.ref e) ⟨h', g, dr, tk', os⟩
    obtain ⟨oe, fv, hoe, hc, hd, hdat, h1⟩ := M.obj
    have hns := M.ns
    obtain ⟨G', g1, g2⟩ := restrict h' fun b => decide (b ≠ e)
    have gk : ∀ b, b ≠ e → G'.get? b = h'.get? b := fun b hb => g1 b (decide_eq_true hb)
    have ge : G'.get? e = none := g2 e (by simp)
    have old : ∀ b o, hp.get? b = some o → G'.get? b = some o := fun b o q => (gk b (Nat.ne_of_lt (Nat.lt_of_lt_of_le (Heap.lt_size q) M.new))).trans (M.keep b o q)
    have ob : ObjOk X.prog X.w (upd H1 d (.xd [(("place" : Str), v)])) G' d (.xd [(("place" : Str), v)]) :=
      ⟨_, hns.at (fun o q => (gk d M.dne).trans q), fun f => relO_low_NoWord rv f⟩
    have J : Inv X pins σ (upd H1 d (.xd [(("place" : Str), v)])) ⟨G', g, dr, tk', os⟩ := I1.laid (t' := tk') old M.dbig ob
    refine ⟨e, oe, fv, ⟨G', g, dr, tk', os⟩, _, .ref C, some d, rfl, J, fun b o q => ?_, ge, hoe, ⟨hc, hd⟩, hdat, h1, ?_, rfl, I1.bare, raises_own T.exC T.tyC, q1 d (I1.hok.fresh M.dbig)⟩
    · by_cases hb : b = e
      · have q' : G'.get? b = some o := q
        rw [hb, ge] at q'; cases q'
      · exact (gk b hb).symm.trans q
    · rw [upd_ne (Ne.symm M.dne)]
      exact I1.hok.fresh M.new
/-- raise Low(e) -/
def tRaiseLow_NoWord (C : Addr) (W : WX) (ta : TA) : TS := fun _ σ H => tMkLow_NoWord C ta σ H fun cls d H' => W cls d σ H'
theorem ps_raiseLow_NoWord {a : Expr} {ta : TA} {W : WX} {p pos pos2 : Pos} {k : Nat} (hc : X.calm = true) (T : PySem.LowX_NoWord.LowTxt X.K X.mg C fI) (hr : Room k X.A) (tk : Takes X W) (ha : PA X [a] ta) (hg : Gl X "NoWord" := by rfl)
    (he : starEach (a :: []) X.env = (false, eval a X.env) :: starEach [] X.env := by rfl) (hpl : (backTo pos (starEach [] X.env)).any (·.1) = false := by rfl) :
    PS X (.Raise (some (.Call (.Name "NoWord" p) [a] [] pos)) none pos2) (tRaiseLow_NoWord C W ta) := ps_raise hc tk (pmk_low_NoWord T hr ha hg he hpl)
end
end L2

namespace PySem
namespace LowX_NoUse
open PySem.W PySem.Calls PyProof.Rows PySem.HandSPX
/-! ### the text of __init__ -/
def iA (p1 p2 : Pos) : Arguments := { posonlyargs := [], args := [{ arg := "self", annotation := none, pos := p1 }, { arg := "at", annotation := none, pos := p2 }], vararg := none, kwonlyargs := [], kw_defaults := [], kwarg := none, defaults := [] }
def iB (q1 q2 q3 q4 : Pos) : List Stmt := [.Assign [.Attribute (.Name "self" q1) "at" q2] (.Name "at" q3) q4]
def iS : Scope := { kind := .function, names := [(PySem.Str.ofString "self", .local), (PySem.Str.ofString "at", .local)], isGenerator := false, isCoroutine := false, more := [] }
/-- what the written part says of Low, at C, and of its __init__, at fI -/
structure LowTxt (K : Frag) (mg : Str → Option Value) (C fI : Addr) : Prop where
  gC : mg "NoUse" = some (.ref C)
  cls : ∃ nm q N bs bm sn sub ab col dd k0 k1 k2 k3 k5, K.lookup C = some (excClassObj nm q C N bs bm true sn sub ab col dd k0 k1 k2 k3 k5 "ValueError.__new__") ∧ refsVE bm = true
  sa : findIn K (.ref C) "__setattr__" = some (some (.builtin "object.__setattr__"))
  ga : findIn K (.ref C) "__getattribute__" = some (some (.builtin "BaseException.__getattribute__"))
  gg : findIn K (.ref C) "__getattr__" = some none
  noN : findIn K (.ref C) "at" = some none
  iC : findIn K (.ref C) "__init__" = some (some (.ref fI))
  tC : typeIn K (.ref fI) = some (.type "function")
  kC : keepIn K (.ref C) = true
  exC : subIn K (.ref C) (.type "BaseException") = some true
  tyC : typeIn K (.ref C) = some (.type "type")
  hdC : hasDictIn K C = true
  te : exmOne K (.ref C) (.ref C) = some true
  fn : ∃ (oc : Value) (od : Option Addr) (doc pm : Value) (an : Option Addr) (cdv ct : Value) (osl : Array (Option Value)) (p1 p2 q1 q2 q3 q4 : Pos),
    K.lookup fI = some ⟨oc, od, .func (fnOf "__init__" "NoUse.__init__" (iA p1 p2) (iB q1 q2 q3 q4) iS .none .none doc pm an cdv ct), osl⟩ ∧ codeIn K cdv "NoUse.__init__" = true
theorem one_size (v : Value) : [v].length ≤ sizeLine := by
  rw [sizeLine_eq]
  exact (by decide : 1 ≤ 16777216)
theorem kept_but {K : Frag} {h h' : Heap} {x : Addr} (X : K.In h) (hx : K.lookup x = none) (k : ∀ b o, b ≠ x → h.get? b = some o → h'.get? b = some o) : K.In h' := fun a o e =>
  k a o (fun z => by rw [z, hx] at e; cases e) (X a o e)
theorem ldC {M : Model} {s : Shared} {name : Str} {scope : Scope} {L a : Addr} {cd : Value} {m : Str → Option Value} {x : Str} {pos : Pos} {v : Value} {Q : Value → Shared → Prop} {A : Around} {E : Value → Shared → Prop} (hn : s.heap.Ns L m) (hv : m x = some v) (h : Q v s)
    (hk : scope.kind = .function := by rfl) (hl : (envOfC name scope L a cd).kindOf x = some .local := by rfl) (hd : (x == ("__debug__" : Str)) = false := by decide) :
    wpAny M A (eval (.Name x pos) (envOfC name scope L a cd)) Q E s := wpAny_Name (wpAny_loadName_local hk hl hn hv h) hd
/-- what __init__ leaves of a fresh exception at x -/
structure InitEnd (h h' : Heap) (x C dx t1 : Addr) (v : Value) : Prop where
  keep : ∀ b o, b ≠ x → h.get? b = some o → h'.get? b = some o
  obj : h'.get? x = some { cls := .ref C, dict := some dx, data := .fields #[.ref t1, .none, .none, .none, .bool false, .none] }
  dbig : h.objs.size ≤ dx
  dne : dx ≠ x
  ns : h'.Ns1 dx (fun y => if y = "at" then some v else none)
/-- a made Low -/
structure OwnMade (h h' : Heap) (e C d : Addr) (v : Value) : Prop where
  keep : ∀ b o, h.get? b = some o → h'.get? b = some o
  new : h.objs.size ≤ e
  obj : ∃ oe vs, h'.get? e = some oe ∧ oe.cls = .ref C ∧ oe.dict = some d ∧ oe.data = .fields vs ∧ vs[1]? = some .none ∧ vs[2]? = some .none
  dbig : h.objs.size ≤ d
  dne : d ≠ e
  ns : h'.Ns1 d (fun y => if y = "at" then some v else none)
section
variable {prog : Program} {w : World} {A : Around} {E : Value → Shared → Prop} {R : Result → Shared → Prop} {s : Shared} {K : Frag} {mg : Str → Option Value} {C fI : Addr}
theorem low_init (T : LowTxt K mg C fI) {x t0 : Addr} {v : Value} (X : K.In s.heap) (hlim : s.heap.NoLimit) (hx : s.heap.get? x = some (excO C t0)) (hnx : K.lookup x = none) (hroom : A.depth < recursionLimit)
    (hq : ∀ h' tk dx, InitEnd s.heap h' x C dx t0 v → R (.ok (.ret .none)) { s with heap := h', toks := tk }) :
    codeAny (model prog w) A (.call (.ref fI) ⟨[.ref x, v], []⟩) R s := by
  obtain ⟨oc, od, doc, pm, an, cdv, ct, osl, p1, p2, q1, q2, q3, q4, ho, hcd⟩ := T.fn
  obtain ⟨nm, q, N, bs, bm, sn, sub, ab, col, dd, k0, k1, k2, k3, k5, hC, hbm⟩ := T.cls
  have hcl : clsIn K C = some { name := nm, bases := bs, mro := .ref C :: bm, ns := N, qualname := q, hasDict := true, slotNames := sn, subclasses := sub, abstract := ab, collection := col, hasDel := false } := by unfold clsIn; rw [hC] <;> rfl
  refine Att.call_fn (binds := [("self", .ref x), ("at", v)]) X hlim ho hcd hroom (BindsTo.of_eq (by first | rfl | with_unfolding_all rfl)) (by first | rfl | decide | with_unfolding_all rfl) (fun s₁ IC => ?_) rfl rfl rfl
  obtain ⟨h₁, tk₁, rfl⟩ := IC.toInCall.same
  have k : ∀ b o, s.heap.get? b = some o → h₁.get? b = some o := IC.toInCall.keep
  have hn := IC.toInCall.ns
  have hxL : s.heap.objs.size ≠ x := Nat.ne_of_gt (Heap.lt_size hx)
  have X₁ : K.In h₁ := X.keeps k
  have hx₁ := k _ _ hx
  -- self.by = by
  show wpAny _ _ (execs _ _) _ _ _
  refine wpAny_execs_cons (plainObj_wpAny_Assign_Attribute ?_)
  refine ldC (v := v) hn (by first | rfl | with_unfolding_all rfl | kernel_rfl) (ldC (v := .ref x) hn (by first | rfl | with_unfolding_all rfl | kernel_rfl) ?_)
  refine set_plain X₁ (ox := excO C t0) (od := none) ⟨hx₁, rfl, rfl, trivial⟩ T.sa ?_
  refine exc_osa X₁ hx₁ hcl (show refsVE (.ref C :: bm) = true from hbm) rfl T.noN (fun h₃ tk₃ dx k₃ dn dne hx₃ hn₃ => ?_)
  show wpAny _ _ (execs _ _) _ _ _
  have z : s.heap.objs.size < h₁.objs.size := hn.lt
  exact wpAny_execs_nil (hq h₃ tk₃ dx ⟨fun b o hb e => k₃ b o hb (k b o e), hx₃, Nat.le_of_lt (Nat.lt_of_lt_of_le z dn), dne, hn₃⟩)
theorem low_made (T : LowTxt K mg C fI) {v : Value} (X : K.In s.heap) (hlim : s.heap.NoLimit) (hroom : A.depth + 1 < recursionLimit)
    (hq : ∀ h' tk e d, OwnMade s.heap h' e C d v → R (.ok (.ret (.ref e))) { s with heap := h', toks := tk }) :
    codeAny (model prog w) A (.call (.ref C) ⟨[v], []⟩) R s := by
  obtain ⟨nm, q, N, bs, bm, sn, sub, ab, col, dd, k0, k1, k2, k3, k5, hC, hbm⟩ := T.cls
  obtain ⟨hp, g, dr, tk, os⟩ := s
  have k : ∀ b o, hp.get? b = some o → ((hp.push (kdv_tup [v])).push (excO C hp.objs.size)).get? b = some o := fun b o e => Heap.get?_push_of_some _ (Heap.get?_push_of_some _ e)
  have hget : ((hp.push (kdv_tup [v])).push (excO C hp.objs.size)).get? (hp.objs.size + 1) = some (excO C hp.objs.size) := by heap_get
  have hnx : K.lookup (hp.objs.size + 1) = none := by
    cases e : K.lookup (hp.objs.size + 1) with
    | none => rfl
    | some o =>
      have z : hp.get? (hp.objs.size + 1) = some o := X _ _ e
      exact absurd (Nat.lt_of_succ_lt (Heap.lt_size z)) (Nat.lt_irrefl _)
  refine call_own F.excBase_ValueError (fun X => refsVE_contains X bm hbm) (X _ _ hC) (looks_findIn X T.iC) (fun self => bind_fn X self T.tC) (one_size v) ?_
  refine low_init (s := ⟨(hp.push (kdv_tup [v])).push (excO C hp.objs.size), g, dr, tk, os⟩) T (X.keeps k) (hlim.keeps k) hget hnx ?_ fun h' tk' dx ⟨k', hx, dn, dne, hns⟩ => ?_
  · show A.depth + 1 < recursionLimit
    exact hroom
  · have old : ∀ b o, hp.get? b = some o → h'.get? b = some o := fun b o e => k' b o (Nat.ne_of_lt (Nat.lt_succ_of_lt (Heap.lt_size e))) (k b o e)
    have z : hp.objs.size + 1 + 1 ≤ dx := by
      first
        | (simpa only [Heap.size_push] using dn)
        | exact dn
        | (have q := dn; rw [Heap.size_push, Heap.size_push] at q; exact q)
    exact ⟨rfl, hq h' tk' (hp.objs.size + 1) dx ⟨old, Nat.le_succ _, ⟨_, _, hx, rfl, rfl, rfl, rfl, rfl⟩, Nat.le_trans (Nat.le_trans (Nat.le_succ _) (Nat.le_succ _)) z, dne, hns⟩⟩
end
end LowX_NoUse
end PySem
namespace L2
open PySem PySem.Spec PyProof.Rows
theorem relO_low_NoUse {v : V} {v' : Value} (r : RelV v v') (f : Str) : RelO (List.lookup f [(("at" : Str), v)]) (if f = "at" then some v' else none) := by
  by_cases hw : f = "at"
  · subst hw
    rw [if_pos rfl]
    have q : List.lookup ("at" : Str) [(("at" : Str), v)] = some v := by simp [List.lookup]
    rw [q]
    exact r
  · rw [if_neg hw]
    have qw : (f == ("at" : Str)) = false := by simpa using hw
    have q2 : List.lookup f [(("at" : Str), v)] = none := by simp [List.lookup, qw]
    rw [q2]
    trivial
section
variable {X : Cx} {C fI : Addr}
/-- Low(e) -/
def tMkLow_NoUse (C : Addr) (ta : TA) : St → Hp → XK → Prop := fun σ H Q => ta σ H fun vs H1 => ∃ v, vs = [v] ∧ ∀ d, H1 d = none → Q (.ref C) (some d) (upd H1 d (.xd [(("at" : Str), v)]))
theorem pmk_low_NoUse {a : Expr} {ta : TA} {p pos : Pos} {k : Nat} (T : PySem.LowX_NoUse.LowTxt X.K X.mg C fI) (hr : Room k X.A) (ha : PA X [a] ta) (hg : Gl X "NoUse" := by rfl)
    (he : starEach (a :: []) X.env = (false, eval a X.env) :: starEach [] X.env := by rfl) (hpl : (backTo pos (starEach [] X.env)).any (·.1) = false := by rfl) :
    PMk X (.Call (.Name "NoUse" p) [a] [] pos) (tMkLow_NoUse C ta) := by
  intro pins s σ H Q I h
  refine wpAny_Call_Name_kw (ld_glob I hg T.gC ?_)
  refine PySem.W.callWith_K (h₀ := X.base) I.ok.mod.kin T.kC (thn (ha.run pos pins s σ H _ I h) fun us s1 hh => ?_) he hpl
  obtain ⟨vs, H1, I1, r1, v, ev, q1⟩ := hh
  subst ev
  refine ⟨I1.kIn, ?_⟩
  cases r1 with
  | cons rv rn =>
    rename_i v' us'
    cases rn
    show wpAny _ _ (call (.ref C) [v']) _ _ _
    have hlim := I1.nolimit
    obtain ⟨hp, g, dr, tk, os⟩ := s1
    refine wpAny_call (PySem.LowX_NoUse.low_made T I1.kIn hlim (by have := hr.dp; omega) fun h' tk' e d M => ?_)
    show MkP X pins σ Q (.ref e) ⟨h', g, dr, tk', os⟩
    obtain ⟨oe, fv, hoe, hc, hd, hdat, h1, _⟩ := M.obj
    have hns := M.ns
    obtain ⟨G', g1, g2⟩ := restrict h' fun b => decide (b ≠ e)
    have gk : ∀ b, b ≠ e → G'.get? b = h'.get? b := fun b hb => g1 b (decide_eq_true hb)
    have ge : G'.get? e = none := g2 e (by simp)
    have old : ∀ b o, hp.get? b = some o → G'.get? b = some o := fun b o q => (gk b (Nat.ne_of_lt (Nat.lt_of_lt_of_le (Heap.lt_size q) M.new))).trans (M.keep b o q)
    have ob : ObjOk X.prog X.w (upd H1 d (.xd [(("at" : Str), v)])) G' d (.xd [(("at" : Str), v)]) :=
      ⟨_, hns.at (fun o q => (gk d M.dne).trans q), fun f => relO_low_NoUse rv f⟩
    have J : Inv X pins σ (upd H1 d (.xd [(("at" : Str), v)])) ⟨G', g, dr, tk', os⟩ := I1.laid (t' := tk') old M.dbig ob
    refine ⟨e, oe, fv, ⟨G', g, dr, tk', os⟩, _, .ref C, some d, rfl, J, fun b o q => ?_, ge, hoe, ⟨hc, hd⟩, hdat, h1, ?_, rfl, I1.bare, raises_own T.exC T.tyC, q1 d (I1.hok.fresh M.dbig)⟩
    · by_cases hb : b = e
      · have q' : G'.get? b = some o := q
        rw [hb, ge] at q'; cases q'
      · exact (gk b hb).symm.trans q
    · rw [upd_ne (Ne.symm M.dne)]
      exact I1.hok.fresh M.new
/-- raise Low(e) -/
def tRaiseLow_NoUse (C : Addr) (W : WX) (ta : TA) : TS := fun _ σ H => tMkLow_NoUse C ta σ H fun cls d H' => W cls d σ H'
theorem ps_raiseLow_NoUse {a : Expr} {ta : TA} {W : WX} {p pos pos2 : Pos} {k : Nat} (hc : X.calm = true) (T : PySem.LowX_NoUse.LowTxt X.K X.mg C fI) (hr : Room k X.A) (tk : Takes X W) (ha : PA X [a] ta) (hg : Gl X "NoUse" := by rfl)
    (he : starEach (a :: []) X.env = (false, eval a X.env) :: starEach [] X.env := by rfl) (hpl : (backTo pos (starEach [] X.env)).any (·.1) = false := by rfl) :
    PS X (.Raise (some (.Call (.Name "NoUse" p) [a] [] pos)) none pos2) (tRaiseLow_NoUse C W ta) := ps_raise hc tk (pmk_low_NoUse T hr ha hg he hpl)
end
end L2

namespace PySem
namespace LowX_NotTurned
open PySem.W PySem.Calls PyProof.Rows PySem.HandSPX
/-! ### the text of __init__ -/
def iA (p1 p2 : Pos) : Arguments := { posonlyargs := [], args := [{ arg := "self", annotation := none, pos := p1 }, { arg := "number", annotation := none, pos := p2 }], vararg := none, kwonlyargs := [], kw_defaults := [], kwarg := none, defaults := [] }
def iB (q1 q2 q3 q4 : Pos) : List Stmt := [.Assign [.Attribute (.Name "self" q1) "number" q2] (.Name "number" q3) q4]
def iS : Scope := { kind := .function, names := [(PySem.Str.ofString "self", .local), (PySem.Str.ofString "number", .local)], isGenerator := false, isCoroutine := false, more := [] }
/-- what the written part says of Low, at C, and of its __init__, at fI -/
structure LowTxt (K : Frag) (mg : Str → Option Value) (C fI : Addr) : Prop where
  gC : mg "NotTurned" = some (.ref C)
  cls : ∃ nm q N bs bm sn sub ab col dd k0 k1 k2 k3 k5, K.lookup C = some (excClassObj nm q C N bs bm true sn sub ab col dd k0 k1 k2 k3 k5 "ValueError.__new__") ∧ refsVE bm = true
  sa : findIn K (.ref C) "__setattr__" = some (some (.builtin "object.__setattr__"))
  ga : findIn K (.ref C) "__getattribute__" = some (some (.builtin "BaseException.__getattribute__"))
  gg : findIn K (.ref C) "__getattr__" = some none
  noN : findIn K (.ref C) "number" = some none
  iC : findIn K (.ref C) "__init__" = some (some (.ref fI))
  tC : typeIn K (.ref fI) = some (.type "function")
  kC : keepIn K (.ref C) = true
  exC : subIn K (.ref C) (.type "BaseException") = some true
  tyC : typeIn K (.ref C) = some (.type "type")
  hdC : hasDictIn K C = true
  te : exmOne K (.ref C) (.ref C) = some true
  fn : ∃ (oc : Value) (od : Option Addr) (doc pm : Value) (an : Option Addr) (cdv ct : Value) (osl : Array (Option Value)) (p1 p2 q1 q2 q3 q4 : Pos),
    K.lookup fI = some ⟨oc, od, .func (fnOf "__init__" "NotTurned.__init__" (iA p1 p2) (iB q1 q2 q3 q4) iS .none .none doc pm an cdv ct), osl⟩ ∧ codeIn K cdv "NotTurned.__init__" = true
theorem one_size (v : Value) : [v].length ≤ sizeLine := by
  rw [sizeLine_eq]
  exact (by decide : 1 ≤ 16777216)
theorem kept_but {K : Frag} {h h' : Heap} {x : Addr} (X : K.In h) (hx : K.lookup x = none) (k : ∀ b o, b ≠ x → h.get? b = some o → h'.get? b = some o) : K.In h' := fun a o e =>
  k a o (fun z => by rw [z, hx] at e; cases e) (X a o e)
theorem ldC {M : Model} {s : Shared} {name : Str} {scope : Scope} {L a : Addr} {cd : Value} {m : Str → Option Value} {x : Str} {pos : Pos} {v : Value} {Q : Value → Shared → Prop} {A : Around} {E : Value → Shared → Prop} (hn : s.heap.Ns L m) (hv : m x = some v) (h : Q v s)
    (hk : scope.kind = .function := by rfl) (hl : (envOfC name scope L a cd).kindOf x = some .local := by rfl) (hd : (x == ("__debug__" : Str)) = false := by decide) :
    wpAny M A (eval (.Name x pos) (envOfC name scope L a cd)) Q E s := wpAny_Name (wpAny_loadName_local hk hl hn hv h) hd
/-- what __init__ leaves of a fresh exception at x -/
structure InitEnd (h h' : Heap) (x C dx t1 : Addr) (v : Value) : Prop where
  keep : ∀ b o, b ≠ x → h.get? b = some o → h'.get? b = some o
  obj : h'.get? x = some { cls := .ref C, dict := some dx, data := .fields #[.ref t1, .none, .none, .none, .bool false, .none] }
  dbig : h.objs.size ≤ dx
  dne : dx ≠ x
  ns : h'.Ns1 dx (fun y => if y = "number" then some v else none)
/-- a made Low -/
structure OwnMade (h h' : Heap) (e C d : Addr) (v : Value) : Prop where
  keep : ∀ b o, h.get? b = some o → h'.get? b = some o
  new : h.objs.size ≤ e
  obj : ∃ oe vs, h'.get? e = some oe ∧ oe.cls = .ref C ∧ oe.dict = some d ∧ oe.data = .fields vs ∧ vs[1]? = some .none
  dbig : h.objs.size ≤ d
  dne : d ≠ e
  ns : h'.Ns1 d (fun y => if y = "number" then some v else none)
section
variable {prog : Program} {w : World} {A : Around} {E : Value → Shared → Prop} {R : Result → Shared → Prop} {s : Shared} {K : Frag} {mg : Str → Option Value} {C fI : Addr}
theorem low_init (T : LowTxt K mg C fI) {x t0 : Addr} {v : Value} (X : K.In s.heap) (hlim : s.heap.NoLimit) (hx : s.heap.get? x = some (excO C t0)) (hnx : K.lookup x = none) (hroom : A.depth < recursionLimit)
    (hq : ∀ h' tk dx, InitEnd s.heap h' x C dx t0 v → R (.ok (.ret .none)) { s with heap := h', toks := tk }) :
    codeAny (model prog w) A (.call (.ref fI) ⟨[.ref x, v], []⟩) R s := by
  obtain ⟨oc, od, doc, pm, an, cdv, ct, osl, p1, p2, q1, q2, q3, q4, ho, hcd⟩ := T.fn
  obtain ⟨nm, q, N, bs, bm, sn, sub, ab, col, dd, k0, k1, k2, k3, k5, hC, hbm⟩ := T.cls
  have hcl : clsIn K C = some { name := nm, bases := bs, mro := .ref C :: bm, ns := N, qualname := q, hasDict := true, slotNames := sn, subclasses := sub, abstract := ab, collection := col, hasDel := false } := by unfold clsIn; rw [hC] <;> rfl
  refine Att.call_fn (binds := [("self", .ref x), ("number", v)]) X hlim ho hcd hroom (BindsTo.of_eq (by first | rfl | with_unfolding_all rfl)) (by first | rfl | decide | with_unfolding_all rfl) (fun s₁ IC => ?_) rfl rfl rfl
  obtain ⟨h₁, tk₁, rfl⟩ := IC.toInCall.same
  have k : ∀ b o, s.heap.get? b = some o → h₁.get? b = some o := IC.toInCall.keep
  have hn := IC.toInCall.ns
  have hxL : s.heap.objs.size ≠ x := Nat.ne_of_gt (Heap.lt_size hx)
  have X₁ : K.In h₁ := X.keeps k
  have hx₁ := k _ _ hx
  -- self.by = by
  show wpAny _ _ (execs _ _) _ _ _
  refine wpAny_execs_cons (plainObj_wpAny_Assign_Attribute ?_)
  refine ldC (v := v) hn (by first | rfl | with_unfolding_all rfl | kernel_rfl) (ldC (v := .ref x) hn (by first | rfl | with_unfolding_all rfl | kernel_rfl) ?_)
  refine set_plain X₁ (ox := excO C t0) (od := none) ⟨hx₁, rfl, rfl, trivial⟩ T.sa ?_
  refine exc_osa X₁ hx₁ hcl (show refsVE (.ref C :: bm) = true from hbm) rfl T.noN (fun h₃ tk₃ dx k₃ dn dne hx₃ hn₃ => ?_)
  show wpAny _ _ (execs _ _) _ _ _
  have z : s.heap.objs.size < h₁.objs.size := hn.lt
  exact wpAny_execs_nil (hq h₃ tk₃ dx ⟨fun b o hb e => k₃ b o hb (k b o e), hx₃, Nat.le_of_lt (Nat.lt_of_lt_of_le z dn), dne, hn₃⟩)
theorem low_made (T : LowTxt K mg C fI) {v : Value} (X : K.In s.heap) (hlim : s.heap.NoLimit) (hroom : A.depth + 1 < recursionLimit)
    (hq : ∀ h' tk e d, OwnMade s.heap h' e C d v → R (.ok (.ret (.ref e))) { s with heap := h', toks := tk }) :
    codeAny (model prog w) A (.call (.ref C) ⟨[v], []⟩) R s := by
  obtain ⟨nm, q, N, bs, bm, sn, sub, ab, col, dd, k0, k1, k2, k3, k5, hC, hbm⟩ := T.cls
  obtain ⟨hp, g, dr, tk, os⟩ := s
  have k : ∀ b o, hp.get? b = some o → ((hp.push (kdv_tup [v])).push (excO C hp.objs.size)).get? b = some o := fun b o e => Heap.get?_push_of_some _ (Heap.get?_push_of_some _ e)
  have hget : ((hp.push (kdv_tup [v])).push (excO C hp.objs.size)).get? (hp.objs.size + 1) = some (excO C hp.objs.size) := by heap_get
  have hnx : K.lookup (hp.objs.size + 1) = none := by
    cases e : K.lookup (hp.objs.size + 1) with
    | none => rfl
    | some o =>
      have z : hp.get? (hp.objs.size + 1) = some o := X _ _ e
      exact absurd (Nat.lt_of_succ_lt (Heap.lt_size z)) (Nat.lt_irrefl _)
  refine call_own F.excBase_ValueError (fun X => refsVE_contains X bm hbm) (X _ _ hC) (looks_findIn X T.iC) (fun self => bind_fn X self T.tC) (one_size v) ?_
  refine low_init (s := ⟨(hp.push (kdv_tup [v])).push (excO C hp.objs.size), g, dr, tk, os⟩) T (X.keeps k) (hlim.keeps k) hget hnx ?_ fun h' tk' dx ⟨k', hx, dn, dne, hns⟩ => ?_
  · show A.depth + 1 < recursionLimit
    exact hroom
  · have old : ∀ b o, hp.get? b = some o → h'.get? b = some o := fun b o e => k' b o (Nat.ne_of_lt (Nat.lt_succ_of_lt (Heap.lt_size e))) (k b o e)
    have z : hp.objs.size + 1 + 1 ≤ dx := by
      first
        | (simpa only [Heap.size_push] using dn)
        | exact dn
        | (have q := dn; rw [Heap.size_push, Heap.size_push] at q; exact q)
    exact ⟨rfl, hq h' tk' (hp.objs.size + 1) dx ⟨old, Nat.le_succ _, ⟨_, _, hx, rfl, rfl, rfl, rfl⟩, Nat.le_trans (Nat.le_trans (Nat.le_succ _) (Nat.le_succ _)) z, dne, hns⟩⟩
end
end LowX_NotTurned
end PySem
namespace L2
open PySem PySem.Spec PyProof.Rows
theorem relO_low_NotTurned {v : V} {v' : Value} (r : RelV v v') (f : Str) : RelO (List.lookup f [(("number" : Str), v)]) (if f = "number" then some v' else none) := by
  by_cases hw : f = "number"
  · subst hw
    rw [if_pos rfl]
    have q : List.lookup ("number" : Str) [(("number" : Str), v)] = some v := by simp [List.lookup]
    rw [q]
    exact r
  · rw [if_neg hw]
    have qw : (f == ("number" : Str)) = false := by simpa using hw
    have q2 : List.lookup f [(("number" : Str), v)] = none := by simp [List.lookup, qw]
    rw [q2]
    trivial
section
variable {X : Cx} {C fI : Addr}
/-- Low(e) -/
def tMkLow_NotTurned (C : Addr) (ta : TA) : St → Hp → XK → Prop := fun σ H Q => ta σ H fun vs H1 => ∃ v, vs = [v] ∧ ∀ d, H1 d = none → Q (.ref C) (some d) (upd H1 d (.xd [(("number" : Str), v)]))
theorem pmk_low_NotTurned {a : Expr} {ta : TA} {p pos : Pos} {k : Nat} (T : PySem.LowX_NotTurned.LowTxt X.K X.mg C fI) (hr : Room k X.A) (ha : PA X [a] ta) (hg : Gl X "NotTurned" := by rfl)
    (he : starEach (a :: []) X.env = (false, eval a X.env) :: starEach [] X.env := by rfl) (hpl : (backTo pos (starEach [] X.env)).any (·.1) = false := by rfl) :
    PMk X (.Call (.Name "NotTurned" p) [a] [] pos) (tMkLow_NotTurned C ta) := by
  intro pins s σ H Q I h
  refine wpAny_Call_Name_kw (ld_glob I hg T.gC ?_)
  refine PySem.W.callWith_K (h₀ := X.base) I.ok.mod.kin T.kC (thn (ha.run pos pins s σ H _ I h) fun us s1 hh => ?_) he hpl
  obtain ⟨vs, H1, I1, r1, v, ev, q1⟩ := hh
  subst ev
  refine ⟨I1.kIn, ?_⟩
  cases r1 with
  | cons rv rn =>
    rename_i v' us'
    cases rn
    show wpAny _ _ (call (.ref C) [v']) _ _ _
    have hlim := I1.nolimit
    obtain ⟨hp, g, dr, tk, os⟩ := s1
    refine wpAny_call (PySem.LowX_NotTurned.low_made T I1.kIn hlim (by have := hr.dp; omega) fun h' tk' e d M => ?_)
    show MkP X pins σ Q (.ref e) ⟨h', g, dr, tk', os⟩
    obtain ⟨oe, fv, hoe, hc, hd, hdat, h1⟩ := M.obj
    have hns := M.ns
    obtain ⟨G', g1, g2⟩ := restrict h' fun b => decide (b ≠ e)
    have gk : ∀ b, b ≠ e → G'.get? b = h'.get? b := fun b hb => g1 b (decide_eq_true hb)
    have ge : G'.get? e = none := g2 e (by simp)
    have old : ∀ b o, hp.get? b = some o → G'.get? b = some o := fun b o q => (gk b (Nat.ne_of_lt (Nat.lt_of_lt_of_le (Heap.lt_size q) M.new))).trans (M.keep b o q)
    have ob : ObjOk X.prog X.w (upd H1 d (.xd [(("number" : Str), v)])) G' d (.xd [(("number" : Str), v)]) :=
      ⟨_, hns.at (fun o q => (gk d M.dne).trans q), fun f => relO_low_NotTurned rv f⟩
    have J : Inv X pins σ (upd H1 d (.xd [(("number" : Str), v)])) ⟨G', g, dr, tk', os⟩ := I1.laid (t' := tk') old M.dbig ob
    refine ⟨e, oe, fv, ⟨G', g, dr, tk', os⟩, _, .ref C, some d, rfl, J, fun b o q => ?_, ge, hoe, ⟨hc, hd⟩, hdat, h1, ?_, rfl, I1.bare, raises_own T.exC T.tyC, q1 d (I1.hok.fresh M.dbig)⟩
    · by_cases hb : b = e
      · have q' : G'.get? b = some o := q
        rw [hb, ge] at q'; cases q'
      · exact (gk b hb).symm.trans q
    · rw [upd_ne (Ne.symm M.dne)]
      exact I1.hok.fresh M.new
/-- raise Low(e) -/
def tRaiseLow_NotTurned (C : Addr) (W : WX) (ta : TA) : TS := fun _ σ H => tMkLow_NotTurned C ta σ H fun cls d H' => W cls d σ H'
theorem ps_raiseLow_NotTurned {a : Expr} {ta : TA} {W : WX} {p pos pos2 : Pos} {k : Nat} (hc : X.calm = true) (T : PySem.LowX_NotTurned.LowTxt X.K X.mg C fI) (hr : Room k X.A) (tk : Takes X W) (ha : PA X [a] ta) (hg : Gl X "NotTurned" := by rfl)
    (he : starEach (a :: []) X.env = (false, eval a X.env) :: starEach [] X.env := by rfl) (hpl : (backTo pos (starEach [] X.env)).any (·.1) = false := by rfl) :
    PS X (.Raise (some (.Call (.Name "NotTurned" p) [a] [] pos)) none pos2) (tRaiseLow_NotTurned C W ta) := ps_raise hc tk (pmk_low_NotTurned T hr ha hg he hpl)
end
end L2

set_option Elab.async false
set_option linter.all false
set_option maxRecDepth 100000
set_option maxHeartbeats 2000000
/-! Vs3: errors of the program's own. -/
namespace Vs
open PySem L2
open Classical in
/-- what does not hang on where the caught error stands -/
noncomputable def allEq {α : Type} (F : Xo → Option α) : Option α := if ∀ o, F o = F ⟨0, .none, none⟩ then F ⟨0, .none, none⟩ else none
theorem allEq_of {α : Type} {F : Xo → Option α} {a : α} (h : allEq F = some a) (o : Xo) : F o = some a := by
  unfold allEq at h
  split at h
  · rename_i q
    rw [q o, h]
  · cases h
theorem allEq_const {α : Type} {a : Option α} : allEq (fun _ => a) = a := by
  unfold allEq
  rw [if_pos fun _ => rfl]
def fRaise0 (c : Nat) : Ss := fun e => some (.ex ⟨c, none⟩ e)
def fRaise1 (c : Nat) (m : Sm D) : Ss := sbnd m fun d e => match d with
  | .int z => some (.ex ⟨c, some z⟩ e)
  | _ => none
section
variable {X : Cx} {κ : Kx} {W : WX}
abbrev veB : List Value := [.type "ValueError", .type "Exception", .type "BaseException", .type "object"]
theorem s_raise0 {c : Nat} {x m : Str} {j : Nat} {p p2 pos pos2 : Pos} (hc : X.calm = true) (hK : X.K = κ.K) (hf : κ.xf c = none) (tk : Takes X W) (gC : X.mg x = some (.ref (κ.xc c))) (q : PySem.W.excIn κ.K (κ.xc c) veB "ValueError.__new__" = true) (kC : PySem.W.keepIn κ.K (.ref (κ.xc c)) = true)
    (bP : PySem.W.subIn κ.K (.ref (κ.xc c)) (.type "BaseException") = some true) (tP : PySem.W.typeIn κ.K (.ref (κ.xc c)) = some (.type "type")) (hg : Gl X x) (hdb : (x == ("__debug__" : Str)) = false := by decide) :
    PS X (.Raise (some (.Call (.Name x p) [.Constant (.str m) j p2] [] pos)) none pos2) (tS κ W (fRaise0 c)) := by
  rw [← hK] at q kC bP tP
  refine PS.imp (ps_raise hc tk (pmk_own PySem.F.excBase_ValueError q gC kC (raises_own bP tP) hg hdb)) fun D σ H ⟨G, env, r, h⟩ => ?_
  exact h _ none σ H G r ⟨rfl, by rw [hf]⟩ Fr.refl
theorem raise1_tr {c : Nat} {f : Str} {m : Sm D} {D0 : Ends} {σ : L2.St} {H : Hp} (hf : κ.xf c = some f) (h : tS κ W (fRaise1 c m) D0 σ H) :
    (tCons (tI κ W (RB κ) m) tNil) σ H fun vs H1 => ∃ v, vs = [v] ∧ ∀ d, H1 d = none → W (.ref (κ.xc c)) (some d) σ (upd H1 d (.xd [(f, v)])) := by
  obtain ⟨G, env, r, q⟩ := h
  refine sbind_post r q fun d e1 v H1 G1 _ r1 rv f1 q1 => ?_
  cases d with
  | int z =>
    refine ⟨v, rfl, fun b hb => ?_⟩
    have st := new_sh (o := .xd [(f, v)]) r1 hb
    refine q1 _ _ σ _ _ st.rep ⟨rfl, ?_⟩ st.fr
    rw [hf]
    exact ⟨b, rfl, by show upd G1.g b _ b = _; rw [upd_same, RBq.int rv]⟩
  | _ => exact q1.elim
theorem s_raise_NoWord {c : Nat} {fI : Addr} {a : Expr} {m : Sm D} {p pos pos2 : Pos} {k : Nat} (hc : X.calm = true) (hK : X.K = κ.K) (hf : κ.xf c = some "place") (T : PySem.LowX_NoWord.LowTxt κ.K X.mg (κ.xc c) fI) (hr : Room k X.A) (tk : Takes X W) (he : PE X a (tX κ W (RB κ) m)) (hg : Gl X "NoWord" := by rfl)
    (hs : starEach (a :: []) X.env = (false, eval a X.env) :: starEach [] X.env := by rfl) (hpl : (backTo pos (starEach [] X.env)).any (·.1) = false := by rfl) : PS X (.Raise (some (.Call (.Name "NoWord" p) [a] [] pos)) none pos2) (tS κ W (fRaise1 c m)) := by
  rw [← hK] at T
  exact PS.imp (ps_raiseLow_NoWord hc T hr tk (pa_cons (im he) pa_nil hs) hg hs hpl) fun D σ H h => raise1_tr hf h
theorem s_raise_NoUse {c : Nat} {fI : Addr} {a : Expr} {m : Sm D} {p pos pos2 : Pos} {k : Nat} (hc : X.calm = true) (hK : X.K = κ.K) (hf : κ.xf c = some "at") (T : PySem.LowX_NoUse.LowTxt κ.K X.mg (κ.xc c) fI) (hr : Room k X.A) (tk : Takes X W) (he : PE X a (tX κ W (RB κ) m)) (hg : Gl X "NoUse" := by rfl)
    (hs : starEach (a :: []) X.env = (false, eval a X.env) :: starEach [] X.env := by rfl) (hpl : (backTo pos (starEach [] X.env)).any (·.1) = false := by rfl) : PS X (.Raise (some (.Call (.Name "NoUse" p) [a] [] pos)) none pos2) (tS κ W (fRaise1 c m)) := by
  rw [← hK] at T
  exact PS.imp (ps_raiseLow_NoUse hc T hr tk (pa_cons (im he) pa_nil hs) hg hs hpl) fun D σ H h => raise1_tr hf h
theorem s_raise_NotTurned {c : Nat} {fI : Addr} {a : Expr} {m : Sm D} {p pos pos2 : Pos} {k : Nat} (hc : X.calm = true) (hK : X.K = κ.K) (hf : κ.xf c = some "number") (T : PySem.LowX_NotTurned.LowTxt κ.K X.mg (κ.xc c) fI) (hr : Room k X.A) (tk : Takes X W) (he : PE X a (tX κ W (RB κ) m)) (hg : Gl X "NotTurned" := by rfl)
    (hs : starEach (a :: []) X.env = (false, eval a X.env) :: starEach [] X.env := by rfl) (hpl : (backTo pos (starEach [] X.env)).any (·.1) = false := by rfl) : PS X (.Raise (some (.Call (.Name "NotTurned" p) [a] [] pos)) none pos2) (tS κ W (fRaise1 c m)) := by
  rw [← hK] at T
  exact PS.imp (ps_raiseLow_NotTurned hc T hr tk (pa_cons (im he) pa_nil hs) hg hs hpl) fun D σ H h => raise1_tr hf h
end
/-! ### try -/
def aftr (i : Nat) : Option SO → Option SO
  | some (.nx e) => some (.nx (e.set i .un))
  | some (.bk e) => some (.bk (e.set i .un))
  | some (.ct e) => some (.ct (e.set i .un))
  | some (.rt r) => some (.rt r)
  | some (.rv r e) => some (.rv r (e.set i .un))
  | _ => none
def noX : Option SO → Option SO
  | some (.ex _ _) => none
  | o => o
/-- except X as n -/
noncomputable def sTryAs (xs : Nat → Nat → Option Bool) (h i : Nat) (body : Ss) (suite : Xo → Ss) : Ss := fun e => match body e with
  | some (.ex x e1) => match xs x.c h with
    | some true => if i < e1.length then allEq fun o => aftr i (suite o (e1.set i (.sh (.xn o x)))) else none
    | some false => some (.ex x e1)
    | none => none
  | o => o
/-- except X -/
def sTry (xs : Nat → Nat → Option Bool) (h : Nat) (body suite : Ss) : Ss := fun e => match body e with
  | some (.ex x e1) => match xs x.c h with
    | some true => noX (suite e1)
    | some false => some (.ex x e1)
    | none => none
  | o => o
/-- the classes' kinship as the written part tells it -/
def XsOk (κ : Kx) (xs : Nat → Nat → Option Bool) (h : Nat) : Prop := ∀ c b, xs c h = some b → PySem.W.exmOne κ.K (.ref (κ.xc c)) (.ref (κ.xc h)) = some b
section
variable {X : Cx} {κ : Kx} {W : WX}
theorem Rep.goneS {H : Hp} {G : Gh} {σ : L2.St} {env : En} (r : Rep κ H G σ env) (i : Nat) : Rep κ H (G.put i []) (σ.set i none) (env.set i .un) ∧ Fr H G σ env H (G.put i []) (σ.set i none) (env.set i .un) := by
  have u : UnAt [i] (env.set i .un) := fun v hv s e => by
    have hv : v = i := by simpa using hv
    subst hv
    rcases set_look e with ⟨_, q⟩ | ⟨q, _⟩
    · exact q
    · exact (q rfl).elim
  have o : Off [i] σ (σ.set i none) := off_set (by simp)
  exact ⟨(r.drop1 i).off u o (List.length_set ..), (Fr.drop1 i).offR u o⟩
theorem SPost.aftr {i : Nat} {σ : L2.St} {H : Hp} {G : Gh} {env : En} {D0 : Ends} {o : Option SO} (q : SPost κ W σ H G env (aftr i o) D0) :
    SPost κ WF σ H G env o { nx := fun σ' H' => D0.nx (σ'.set i none) H', rt := D0.rt, bk := fun σ' H' => D0.bk (σ'.set i none) H', ct := fun σ' H' => D0.ct (σ'.set i none) H' } := by
  cases o with
  | none => exact q
  | some o => cases o with
    | nx e => exact fun σ' H' G' r f => q _ H' _ (r.goneS i).1 (f.trans (r.goneS i).2)
    | bk e => exact fun σ' H' G' r f => q _ H' _ (r.goneS i).1 (f.trans (r.goneS i).2)
    | ct e => exact fun σ' H' G' r f => q _ H' _ (r.goneS i).1 (f.trans (r.goneS i).2)
    | rt z => exact q
    | rv z e =>
      intro v σ' H' G' r rv f
      refine q v _ H' _ (r.goneS i).1 ?_ (f.trans (r.goneS i).2)
      have fr : ∀ a, Fre G' e a → Fre (G'.put i []) (e.set i .un) a := fun a h j t e1 m => by
        rcases set_look e1 with ⟨rfl, rfl⟩ | ⟨w, e2⟩
        · rw [put_at] at m; cases m
        · rw [put_ne w] at m; exact h j t e2 m
      cases z with
      | sh d => exact rv
      | ow l =>
        obtain ⟨a, xs, h1, h2, h3, h4, h5, h6⟩ := rv
        exact ⟨a, xs, h1, h2, h3, h4, fr a h5, h6⟩
      | tr o =>
        obtain ⟨F, h1, h2⟩ := rv
        exact ⟨F, h1, fun a m => ⟨fr a (h2 a m).1, (h2 a m).2⟩⟩
    | ex x e => exact q.elim
theorem SPost.noX {σ : L2.St} {H : Hp} {G : Gh} {env : En} {D0 : Ends} {o : Option SO} (q : SPost κ W σ H G env (noX o) D0) : SPost κ WF σ H G env o D0 := by
  cases o with
  | none => exact q
  | some o => cases o with
    | ex x e => exact q.elim
    | _ => exact q
variable {x n : Str} {h i : Nat} {xs : Nat → Nat → Option Bool} {body suite : List Stmt} {b₀ : Stmt} {np pos pos' : Pos} {mb : Ss} {ms : Xo → Ss} {m0 : Ss}
theorem s_tryAs (hs : X.stack = X.env :: X.outer) (hf : X.env.frame = some X.env.locals) (hN : X.N.Nodup) (hi : X.N[i]? = some n) (hln : X.env.kindOf n = some .local) (hK : X.K = κ.K) (hc : Names X x (.ref (κ.xc h))) (hx : XsOk κ xs h) (tk : Takes X W)
    (hb : ∀ (W : WX) (pn : List (Addr × Obj)) (xe : Value → Shared → Prop), Takes (X.tr pn xe) W → PassesOwn (model X.prog X.w) X.A X.env xe → PSs (X.tr pn xe) body (tS κ W mb))
    (hsu : ∀ (a : Addr) (oe : Obj) (cls : Value) (d : Option Addr) (pn : List (Addr × Obj)), Zc cls d oe → (∃ vs, oe.data = .fields vs) → PSs (X.suite a ((a, oe) :: pn)) (b₀ :: suite) (tS κ WF (ms ⟨a, cls, d⟩))) :
    PS X (.Try body [.ExceptHandler (some (.Name x np)) (some n) (b₀ :: suite) pos'] [] [] pos) (tS κ W (sTryAs xs h i mb ms)) :=
  PS.imp (ps_try_as (tb := fun W => tS κ W mb) (ts := fun a cls d => tS κ WF (ms ⟨a, cls, d⟩)) hs hf hN hi hln hc tk hb hsu) fun D0 σ H ⟨G, env, r, q⟩ => by
    refine ⟨G, env, r, ?_⟩
    unfold sTryAs at q
    cases w : mb env with
    | none => rw [w] at q; exact q
    | some o => cases o with
      | nx e => rw [w] at q; exact q
      | bk e => rw [w] at q; exact q
      | ct e => rw [w] at q; exact q
      | rt e => rw [w] at q; exact q
      | rv e e2 => rw [w] at q; exact q
      | ex y e1 =>
        rw [w] at q
        dsimp only at q
        intro c d σ1 H1 G1 r1 xr f1
        cases z : xs y.c h with
        | none => rw [z] at q; exact q.elim
        | some b =>
          rw [z] at q
          refine ⟨b, ?_, fun hb a ha => ?_, fun hb => ?_⟩
          · rw [xr.1, hK]
            exact hx _ _ z
          · subst hb
            dsimp only at q
            by_cases hl : i < e1.length
            · rw [if_pos hl] at q
              obtain ⟨G2, _, r2, f2⟩ := rep_sh (v := .ref a) (d := .xn ⟨a, c, d⟩ y) r1 hl (.xn (o := ⟨a, c, d⟩) xr)
              refine ⟨G2, _, r2, ?_⟩
              cases z2 : allEq fun o => aftr i (ms o (e1.set i (.sh (.xn o y)))) with
              | none => rw [z2] at q; exact q.elim
              | some u =>
                rw [z2] at q
                have e2 := allEq_of z2 ⟨a, c, d⟩
                rw [← e2] at q
                exact SPost.aftr (SPost.shift (f1.trans f2) q)
            · rw [if_neg hl] at q; exact q.elim
          · subst hb
            exact q c d σ1 H1 G1 r1 xr f1
theorem s_try (hs : X.stack = X.env :: X.outer) (hf : X.env.frame = some X.env.locals) (hK : X.K = κ.K) (hc : Names X x (.ref (κ.xc h))) (hx : XsOk κ xs h) (tk : Takes X W)
    (hb : ∀ (W : WX) (pn : List (Addr × Obj)) (xe : Value → Shared → Prop), Takes (X.tr pn xe) W → PassesOwn (model X.prog X.w) X.A X.env xe → PSs (X.tr pn xe) body (tS κ W mb))
    (hsu : ∀ (a : Addr) (oe : Obj) (cls : Value) (d : Option Addr) (pn : List (Addr × Obj)), Zc cls d oe → (∃ vs, oe.data = .fields vs) → PSs (X.suite a ((a, oe) :: pn)) (b₀ :: suite) (tS κ WF m0)) :
    PS X (.Try body [.ExceptHandler (some (.Name x np)) none (b₀ :: suite) pos'] [] [] pos) (tS κ W (sTry xs h mb m0)) :=
  PS.imp (ps_try_only (tb := fun W => tS κ W mb) (ts := fun a cls d => tS κ WF m0) hs hf hc tk hb hsu) fun D0 σ H ⟨G, env, r, q⟩ => by
    refine ⟨G, env, r, ?_⟩
    unfold sTry at q
    cases w : mb env with
    | none => rw [w] at q; exact q
    | some o => cases o with
      | nx e => rw [w] at q; exact q
      | bk e => rw [w] at q; exact q
      | ct e => rw [w] at q; exact q
      | rt e => rw [w] at q; exact q
      | rv e e2 => rw [w] at q; exact q
      | ex y e1 =>
        rw [w] at q
        dsimp only at q
        intro c d σ1 H1 G1 r1 xr f1
        cases z : xs y.c h with
        | none => rw [z] at q; exact q.elim
        | some b =>
          rw [z] at q
          refine ⟨b, ?_, fun hb a ha => ?_, fun hb => ?_⟩
          · rw [xr.1, hK]
            exact hx _ _ z
          · subst hb
            exact ⟨G1, e1, r1, SPost.noX (SPost.shift f1 q)⟩
          · subst hb
            exact q c d σ1 H1 G1 r1 xr f1
/-! ### the caught error asked -/
open Classical in
/-- e.f -/
noncomputable def fXf (xfn : Nat → Option Str) (o : Xo) (i : Nat) (f : Str) : Sm D := fun env => match env[i]? with
  | some (.sh (.xn o' x)) => if o' = o ∧ xfn x.c = some f then match x.a with
    | some z => some (.ok (.int z) env)
    | none => none
    else none
  | _ => none
theorem v_xf {xfn : Nat → Option Str} (hxe : κ.xf = xfn) {a : Addr} {oe : Obj} {cls : Value} {d : Option Addr} {pn : List (Addr × Obj)} {apos : Pos} {f : Str} (hK : X.K = κ.K) (hxf : ∀ c, κ.xf c = some f → L2.XfC κ.K (κ.xc c) ∧ PySem.W.findIn κ.K (.ref (κ.xc c)) f = some none)
    (hz : Zc cls d oe) (hf : ∃ vs, oe.data = .fields vs) (he : PE (X.suite a ((a, oe) :: pn)) (.Name x np) (tVar i)) (hb : attributeBase (.Name x np) f X.env (eval (.Name x np) X.env) = eval (.Name x np) X.env := by rfl) :
    PE (X.suite a ((a, oe) :: pn)) (.Attribute (.Name x np) f apos) (tX κ W (RP κ) (fXf xfn ⟨a, cls, d⟩ i f)) := by
  subst hxe
  refine ⟨fun pins s σ H Q I ⟨G, env, r, q⟩ => ?_⟩
  unfold fXf at q
  split at q
  · rename_i o' x' e
    split at q
    · rename_i w
      obtain ⟨rfl, w2⟩ := w
      obtain ⟨_, v, h1, h2⟩ := r.slot i _ e
      cases h2 with
      | xn xr =>
        obtain ⟨ec, xr2⟩ := xr
        rw [w2] at xr2
        cases za : x'.a with
        | none => rw [za] at q; exact q.elim
        | some z =>
          rw [za] at xr2 q
          obtain ⟨b, eb, hb'⟩ := xr2
          obtain ⟨T, hno⟩ := hxf _ w2
          rw [← hK] at T hno
          exact (pe_xf T hno hz hf he hb).run pins s σ H Q I ⟨_, h1, rfl, ec, b, _, _, eb, r.sub _ _ hb', by simp [List.lookup], q _ H G r (.int z) (Grw.refl _) Fr.refl⟩
    · exact q.elim
  · exact q.elim
/-- what the written part says of an error class, for isinstance -/
structure IsC (K : PySem.W.Frag) (C : Addr) : Prop where
  ic : PySem.W.isClsIn K C = true
  ga : PySem.W.findIn K (.ref C) "__getattribute__" = some (some (.builtin "BaseException.__getattribute__"))
  gg : PySem.W.findIn K (.ref C) "__getattr__" = some none
  sb : PySem.W.subIn K (.ref C) (.type "BaseException") = some true
  ha : PySem.W.findIn K (.ref C) "__class__" = some (some (.builtin "object.__class__"))
  mo : PySem.W.mroIn K C (.type "object") = some true
structure IsB (K : PySem.W.Frag) : Prop where
  hn : PySem.W.specialIn K (.builtin "object.__class__") "__get__" = some (some (.builtin "getset_descriptor.__get__"))
  ht : PySem.W.takesIn K (.builtin "object.__class__") = some true
def KsOk (κ : Kx) (us : List Value) (t : Nat → Option Bool) : Prop := ∀ c b, t c = some b → IsC κ.K (κ.xc c) ∧ PySem.W.kitAny κ.K (.ref (κ.xc c)) us = some b
def rIsX (κ : Kx) (cls : Value) (d : Option Addr) (a : Addr) : List V → Hp → VK → Prop := fun xs H Q => ∃ (c : V) (cv : Value) (b : Bool) (y : Ex), xs = [.ref a, c] ∧ ClsV c cv ∧ XR κ H y cls d ∧ IsC κ.K (κ.xc y.c) ∧ PySem.W.kitOne κ.K cls cv = some b ∧ Q (.bl b) H
def rIsXT (κ : Kx) (cls : Value) (d : Option Addr) (a : Addr) : List V → Hp → VK → Prop := fun xs H Q => ∃ (tp : Addr) (cs : List V) (us : List Value) (b : Bool) (y : Ex), xs = [.ref a, .ref tp] ∧ H tp = some (.tup cs) ∧ Paired ClsV cs us ∧ XR κ H y cls d ∧ IsC κ.K (κ.xc y.c) ∧ PySem.W.kitAny κ.K cls us = some b ∧ Q (.bl b) H
theorem inst_x {a : Addr} {oe : Obj} {cls : Value} {d : Option Addr} {pn pins : List (Addr × Obj)} {σ : L2.St} {H : Hp} {s : Shared} {y : Ex} (hK : X.K = κ.K) (hB : IsB κ.K) (hz : Zc cls d oe) (hf : ∃ vs, oe.data = .fields vs) (I : Inv (X.suite a ((a, oe) :: pn)) pins σ H s) (xr : XR κ H y cls d) (ic : IsC κ.K (κ.xc y.c)) :
    ∃ P : Heap → Prop, PySem.W.KitX κ.K (.ref a) cls P ∧ P s.heap := by
  obtain ⟨ha, _⟩ := I.pin (a, oe) (List.mem_append_left _ List.mem_cons_self)
  obtain ⟨vs, hd⟩ := hf
  obtain ⟨ec, x2⟩ := xr
  subst ec
  have nc : PySem.W.notCls oe = true := by unfold PySem.W.notCls; rw [hd] <;> rfl
  have fin : ∀ {od : Option Obj}, PySem.W.InstAt s.heap a oe (κ.xc y.c) od → ∃ P : Heap → Prop, PySem.W.KitX κ.K (.ref a) (.ref (κ.xc y.c)) P ∧ P s.heap := fun {od} J =>
    ⟨_, PySem.W.kitx_exc ic.ic ic.ga ic.gg ic.sb ic.ha hB.hn hB.ht ic.mo, J⟩
  cases d with
  | none => exact fin (od := none) ⟨ha, hz.1, nc, by rw [hz.2]; trivial⟩
  | some dd =>
    split at x2
    · cases x2
    · obtain ⟨b, eb, hb⟩ := x2
      cases eb
      have hx := I.hok dd _ hb
      obtain ⟨mA, hns, hr⟩ := hx
      obtain ⟨od, ho, hl⟩ := lookIn_ns hns
      exact fin (od := some od) ⟨ha, hz.1, nc, by rw [hz.2]; exact ho⟩
    · exact x2.elim
theorem call_isX {a : Addr} {oe : Obj} {cls : Value} {d : Option Addr} {pn : List (Addr × Obj)} (hK : X.K = κ.K) (hB : IsB κ.K) (hz : Zc cls d oe) (hf : ∃ vs, oe.data = .fields vs) : CallR (X.suite a ((a, oe) :: pn)) (.builtin "isinstance") (rIsX κ cls d a) := by
  intro pins s σ H xs us Q I r h
  obtain ⟨c, cv, b, y, rfl, k, xr, ic, e, q⟩ := h
  obtain ⟨u1, u2, rfl, r1, r2⟩ := vals2 r
  cases (show u1 = Value.ref a from r1)
  have e2 := k.eq r2
  subst e2
  obtain ⟨P, Z, p⟩ := inst_x hK hB hz hf I xr ic
  have kin : κ.K.In s.heap := hK ▸ I.kIn
  exact PySem.W.kia_one Z kin p e (fun z => nomatch z) fun tk => ⟨.bl b, H, I.tok tk, rfl, q⟩
theorem call_isXT {a : Addr} {oe : Obj} {cls : Value} {d : Option Addr} {pn : List (Addr × Obj)} (hK : X.K = κ.K) (hB : IsB κ.K) (hz : Zc cls d oe) (hf : ∃ vs, oe.data = .fields vs) : CallR (X.suite a ((a, oe) :: pn)) (.builtin "isinstance") (rIsXT κ cls d a) := by
  intro pins s σ H xs us Q I r h
  obtain ⟨tp, cs, ws, b, y, rfl, hT, k, xr, ic, e, q⟩ := h
  obtain ⟨u1, u2, rfl, r1, r2⟩ := vals2 r
  cases (show u1 = Value.ref a from r1)
  cases (show u2 = Value.ref tp from r2)
  obtain ⟨P, Z, p⟩ := inst_x hK hB hz hf I xr ic
  have kin : κ.K.In s.heap := hK ▸ I.kIn
  obtain ⟨_, its, rv, o, h1, h2, n, h3⟩ := (show ObjOk X.prog X.w H s.heap tp (.tup cs) from I.hok tp _ hT)
  have e3 := ClsV.all k rv
  subst e3
  obtain ⟨oc, od, dt, sl⟩ := o
  simp only at h2 h3
  subst h2 h3
  exact PySem.W.kia_tup Z kin p h1 e (fun z => nomatch z) fun tk => ⟨.bl b, H, I.tok tk, rfl, q⟩
open Classical in
/-- isinstance(e, ..) -/
noncomputable def fXi (t : Nat → Option Bool) (o : Xo) (i : Nat) : Sm D := fun env => match env[i]? with
  | some (.sh (.xn o' x)) => if o' = o then match t x.c with
    | some b => some (.ok (.bl b) env)
    | none => none
    else none
  | _ => none
theorem fxi_of {t : Nat → Option Bool} {o : Xo} {i : Nat} {σ : L2.St} {H : Hp} {G : Gh} {env : En} {P : V → Hp → Prop} (r : Rep κ H G σ env) (q : EPost κ W (RP κ) σ H G env (fXi t o i env) P) : ∃ (y : Ex) (b : Bool), σ[i]? = some (some (.ref o.a)) ∧ XR κ H y o.cls o.d ∧ t y.c = some b ∧ EPost κ W (RP κ) σ H G env (some (.ok (.bl b) env)) P := by
  unfold fXi at q
  split at q
  · rename_i o' x' e
    split at q
    · rename_i w
      subst w
      obtain ⟨_, v, h1, h2⟩ := r.slot i _ e
      cases h2 with
      | xn xr =>
        cases z : t x'.c with
        | none => rw [z] at q; exact q.elim
        | some b => rw [z] at q; exact ⟨x', b, h1, xr.mono r.sub, z, q⟩
    · exact q.elim
  · exact q.elim
theorem v_isX {a : Addr} {oe : Obj} {cls : Value} {d : Option Addr} {pn : List (Addr × Obj)} {p p2 pos : Pos} {T : Str} {cV : V} {cv : Value} {t : Nat → Option Bool} (hK : X.K = κ.K) (hB : IsB κ.K) (hk : KsOk κ [cv] t) (hz : Zc cls d oe) (hf : ∃ vs, oe.data = .fields vs) (hg : Gl X "isinstance") (hm : X.mg "isinstance" = none) (hcv : ClsV cV cv)
    (hT : PE (X.suite a ((a, oe) :: pn)) (.Name T p2) (tC cV)) (ho : PE (X.suite a ((a, oe) :: pn)) (.Name x np) (tVar i))
    (hv : bootBuiltins "isinstance" = some (.builtin "isinstance") := by decide +kernel) (hst : starEach [.Name x np, .Name T p2] X.env = [(false, eval (.Name x np) X.env), (false, eval (.Name T p2) X.env)] := by rfl) (hst2 : starEach [.Name T p2] X.env = [(false, eval (.Name T p2) X.env)] := by rfl) (hpl : (backTo pos (starEach [.Name T p2] X.env)).any (·.1) = false := by rfl) :
    PE (X.suite a ((a, oe) :: pn)) (.Call (.Name "isinstance" p) [.Name x np, .Name T p2] [] pos) (tX κ W (RP κ) (fXi t ⟨a, cls, d⟩ i)) :=
  PE.imp (pe_callB (X := X.suite a ((a, oe) :: pn)) (call_isX hK hB hz hf) hg hm hv (pa_cons ho (pa_cons hT pa_nil (by rw [hst2]; rfl)) (by rw [hst, hst2])) (by decide) (by decide) (by rw [hst, hst2]) hpl) fun σ H Q ⟨G, env, rp, q⟩ => by
    obtain ⟨y, b, h1, xr, e, q1⟩ := fxi_of rp q
    obtain ⟨ic, k1⟩ := hk _ _ e
    have k2 : PySem.W.kitOne κ.K (.ref (κ.xc y.c)) cv = some b := by
      unfold PySem.W.kitAny at k1
      split at k1
      · rename_i z; rw [z, ← k1]
      · rename_i z; unfold PySem.W.kitAny at k1; rw [z, ← k1]
      · cases k1
    exact ⟨.ref a, h1, cV, cv, b, y, rfl, hcv, xr, ic, by rw [show cls = .ref (κ.xc y.c) from xr.1]; exact k2, q1 _ H G rp (.bl b) (Grw.refl _) Fr.refl⟩
end
section
variable {X : Cx} {κ : Kx} {W : WX} {x : Str} {np : Pos} {i : Nat}
/-- isinstance(e, (A, B)) of the caught error -/
theorem v_isXT {a : Addr} {oe : Obj} {cls : Value} {d : Option Addr} {pn : List (Addr × Obj)} {p p1 p2 pt pos : Pos} {k2 : Nat} {T1 T2 : Str} {cV1 cV2 : V} {cv1 cv2 : Value} {t : Nat → Option Bool} (hK : X.K = κ.K) (hB : IsB κ.K) (hk : KsOk κ [cv1, cv2] t) (hz : Zc cls d oe) (hf : ∃ vs, oe.data = .fields vs) (hg : Gl X "isinstance") (hm : X.mg "isinstance" = none) (h1 : ClsV cV1 cv1) (h2 : ClsV cV2 cv2)
    (hT1 : PE (X.suite a ((a, oe) :: pn)) (.Name T1 p1) (tC cV1)) (hT2 : PE (X.suite a ((a, oe) :: pn)) (.Name T2 p2) (tC cV2)) (ho : PE (X.suite a ((a, oe) :: pn)) (.Name x np) (tVar i))
    (hv : bootBuiltins "isinstance" = some (.builtin "isinstance") := by decide +kernel) (hs1 : starEach [.Name T1 p1, .Name T2 p2] X.env = [(false, eval (.Name T1 p1) X.env), (false, eval (.Name T2 p2) X.env)] := by rfl) (hs2 : starEach [.Name T2 p2] X.env = [(false, eval (.Name T2 p2) X.env)] := by rfl)
    (hst : starEach [.Name x np, .Tuple [.Name T1 p1, .Name T2 p2] k2 pt] X.env = [(false, eval (.Name x np) X.env), (false, eval (.Tuple [.Name T1 p1, .Name T2 p2] k2 pt) X.env)] := by rfl) (hst2 : starEach [.Tuple [.Name T1 p1, .Name T2 p2] k2 pt] X.env = [(false, eval (.Tuple [.Name T1 p1, .Name T2 p2] k2 pt) X.env)] := by rfl) (hpl : (backTo pos (starEach [.Tuple [.Name T1 p1, .Name T2 p2] k2 pt] X.env)).any (·.1) = false := by rfl) :
    PE (X.suite a ((a, oe) :: pn)) (.Call (.Name "isinstance" p) [.Name x np, .Tuple [.Name T1 p1, .Name T2 p2] k2 pt] [] pos) (tX κ W (RP κ) (fXi t ⟨a, cls, d⟩ i)) :=
  PE.imp (pe_callB (X := X.suite a ((a, oe) :: pn)) (call_isXT hK hB hz hf) hg hm hv (pa_cons ho (pa_cons (pe_tup (pa_cons hT1 (pa_cons hT2 pa_nil (by rw [hs2]; rfl)) (by rw [hs1, hs2]))) pa_nil (by rw [hst2]; rfl)) (by rw [hst, hst2])) (by decide) (by decide) (by rw [hst, hst2]) hpl) fun σ H Q ⟨G, env, rp, q⟩ => by
    obtain ⟨y, b, e1, xr, e, q1⟩ := fxi_of rp q
    obtain ⟨ic, k1⟩ := hk _ _ e
    refine ⟨.ref a, e1, (show 2 ≤ sizeLine by decide), fun tp htp => ?_⟩
    have st := new_sh (o := .tup [cV1, cV2]) rp htp
    refine ⟨tp, [cV1, cV2], [cv1, cv2], b, y, rfl, upd_same, .cons h1 (.cons h2 .nil), xr.mono (same_new htp), ic, by rw [show cls = .ref (κ.xc y.c) from xr.1]; exact k1, ?_⟩
    exact q1 _ _ _ st.rep (.bl b) st.same st.fr
end
/-! ### a default -/
theorem RBs.snoc {κ : Kx} {H G : Hp} {m : Bool} {v : V} {d : D} (r : Rp κ G v d) : ∀ {ms : List Bool} {vs : List V} {ds : List D}, RBs κ H G ms vs ds → RBs κ H G (ms ++ [m]) (vs ++ [v]) (ds ++ [d])
  | _, _, _, .nil => by
    cases m with
    | true => exact .bo (.inl r) .nil
    | false => exact .sh r .nil
  | _, _, _, .sh a t => .sh a (RBs.snoc r t)
  | _, _, _, .bo a t => .bo a (RBs.snoc r t)
/-- a def whose last parameter has a number as its default -/
structure VFnD (P : Program) (w : World) (κ : Kx) (mg : Str → Option Value) (base : Heap) (x : Str) (k : Nat) (ms : List Bool) (g : FSem) (dv : Int) : Prop where
  ex : ∃ (f : Addr) (fd : FuncData) (ps : List Str), mg x = some (.ref f) ∧ PySem.W.keepIn κ.K (.ref f) = true ∧ FnOk P w κ.K mg base (L2.CX P w) k f fd ps (spV κ ms g) ∧ Binds κ.K fd ps [] ∧ ∃ ds, Vals [V.int dv] ds ∧ Binds κ.K fd ps ds
theorem VFnD.v {P : Program} {w : World} {κ : Kx} {mg : Str → Option Value} {base : Heap} {x : Str} {k : Nat} {ms : List Bool} {g : FSem} {dv : Int} (F : VFnD P w κ mg base x k ms g dv) : VFn P w κ mg base x k ms g := by
  obtain ⟨f, fd, ps, h1, h2, h3, h4, _⟩ := F.ex
  exact ⟨f, fd, ps, h1, h2, h3, h4⟩
def fCallD (g : FSem) (dv : Int) (m : Sm (List D)) : Sm Rs := bnd m fun ds e => match g (ds ++ [.int dv]) with
  | some (.rt r) => some (.ok r e)
  | some (.ex x) => some (.ex x e)
  | none => none
section
variable {X : Cx} {κ : Kx} {W : WX} {e : Expr} {es : List Expr} {ms : List Bool} {g : FSem} {mr : Sm (List D)} {k : Nat} {x : Str} {p pos : Pos} {dv : Int} {m : Bool}
theorem v_callD (F : VFnD X.prog X.w κ X.mg X.base x k (ms ++ [m]) g dv) (hK : X.K = κ.K) (hr : Room k X.A) (tk : Takes X W) (hg : Gl X x) (ha : PA X (e :: es) (tX κ W (RA κ ms) mr)) (hdb : (x == ("__debug__" : Str)) = false := by decide)
    (he : starEach (e :: es) X.env = (false, eval e X.env) :: starEach es X.env := by rfl) (hpl : (backTo pos (starEach es X.env)).any (·.1) = false := by rfl) : PE X (.Call (.Name x p) (e :: es) [] pos) (tX κ W (RV κ) (fCallD g dv mr)) := by
  obtain ⟨f, fd, ps, hm, hk, F1, _, ds, hv, hb⟩ := F.ex
  rw [← hK] at hk F1 hb
  refine PE.imp (pe_callSD F1 hr hg hm hk hb hv (fun σ => passAt tk σ) ha hdb he hpl) fun σ H Q ⟨G, env, r, q⟩ => ?_
  exact bind_post r q fun d e1 vs H1 G1 em r1 rv s1 f1 q1 => call_post (ms := ms ++ [m]) r1 (RBs.snoc (.int dv) rv) q1
end
theorem FunD.two {κ : Kx} {x qual : Str} {st : Stmt} {f : Addr} {fd : FuncData} {ps : List Str} {dv : Int} (F : FunD κ.K x qual (defArgs st) (defBody st) (defScope st) [V.int dv] [] f fd) (n : Nat) (hn : n + 1 = ps.length)
    (h1 : ∀ (T : Addr) (kV doc pm : Value) (an : Option Addr) (cdv ct : Value) (us : List Value) (d : Value), us.length = n → ∃ k, bindArgs (PySem.W.fnOf x qual (defArgs st) (defBody st) (defScope st) (.ref T) kV doc pm an cdv ct) ⟨us, []⟩ = seqItems? (.ref T) >>= k ∧ k (some #[d]) = pure (ps.zip (us ++ [d])))
    (h2 : ∀ (T : Addr) (kV doc pm : Value) (an : Option Addr) (cdv ct : Value) (us : List Value) (d : Value), us.length = n + 1 → ∃ k, bindArgs (PySem.W.fnOf x qual (defArgs st) (defBody st) (defScope st) (.ref T) kV doc pm an cdv ct) ⟨us, []⟩ = seqItems? (.ref T) >>= k ∧ k (some #[d]) = pure (ps.zip us)) :
    Binds κ.K fd ps [] ∧ ∃ ds, Vals [V.int dv] ds ∧ Binds κ.K fd ps ds := by
  constructor
  · obtain ⟨ds, hv, hb⟩ := F.binds1 (n + 1) 1 (by simp) (by simpa using hn) fun T kV doc pm an cdv ct us its hu hi => by
      match its, hi with
      | [d], _ =>
        obtain ⟨k, e1, e2⟩ := h2 T kV doc pm an cdv ct us d hu
        exact ⟨k, e1, by rw [show ([d] : List Value).drop 1 = [] from rfl, List.append_nil]; exact e2⟩
    cases hv
    exact hb
  · exact F.binds1 n 0 (by simp) (by simpa using hn) fun T kV doc pm an cdv ct us its hu hi => by
      match its, hi with
      | [d], _ => exact h1 T kV doc pm an cdv ct us d hu
/-! ### kinship from the written part -/
section
variable {K : PySem.W.Frag} {S C : Addr} {b : Bool}
theorem exm_ofs {c : Value} (h1 : PySem.W.subIn K (.ref S) (.type "BaseException") = some true) (h2 : PySem.W.isClsIn K S = true) (h3 : PySem.W.typeIn K (.ref S) = some (.type "type")) (h4 : PySem.W.subIn K c (.ref S) = some b) : PySem.W.exmOne K c (.ref S) = some b := by
  have e1 : (PySem.W.subIn K (.ref S) (.type "BaseException") == some true) = true := by rw [h1] <;> rfl
  have e2 : ((PySem.W.clsIn K S).isSome && PySem.W.typeIn K (.ref S) == some (.type "type")) = true := by
    have h2' : (PySem.W.clsIn K S).isSome = true := h2
    rw [h2', h3] <;> rfl
  show (if (PySem.W.subIn K (.ref S) (.type "BaseException") == some true) = true then (if ((PySem.W.clsIn K S).isSome && PySem.W.typeIn K (.ref S) == some (.type "type")) = true then PySem.W.subIn K c (.ref S) else none) else none) = some b
  rw [if_pos e1, if_pos e2]
  exact h4
theorem kit_ofs (hn : (Value.ref C == Value.ref S) = false) (h2 : PySem.W.isClsIn K S = true) (h3 : PySem.W.typeIn K (.ref S) = some (.type "type")) (h4 : PySem.W.subIn K (.ref C) (.ref S) = some b) : PySem.W.kitAny K (.ref C) [.ref S] = some b := by
  have e2 : ((PySem.W.clsIn K S).isSome && PySem.W.typeIn K (.ref S) == some (.type "type")) = true := by
    have h2' : (PySem.W.clsIn K S).isSome = true := h2
    rw [h2', h3] <;> rfl
  have e : PySem.W.kitOne K (.ref C) (.ref S) = some b := by
    unfold PySem.W.kitOne
    rw [hn, if_neg Bool.false_ne_true]
    show (if ((PySem.W.clsIn K S).isSome && PySem.W.typeIn K (.ref S) == some (.type "type")) = true then PySem.W.subIn K (.ref C) (.ref S) else none) = some b
    rw [if_pos e2]
    exact h4
  cases b with
  | true => exact kitAny_cons e (fun h => nomatch h) fun _ => rfl
  | false => exact kitAny_cons e (fun _ => rfl) fun h => nomatch h
theorem kit_two {t A B : Value} {b1 b2 : Bool} (h1 : PySem.W.kitAny K t [A] = some b1) (h2 : PySem.W.kitAny K t [B] = some b2) : PySem.W.kitAny K t [A, B] = some (b1 || b2) := by
  unfold PySem.W.kitAny at h1
  split at h1
  · rename_i z
    cases h1
    unfold PySem.W.kitAny
    rw [z]
    rfl
  · rename_i z
    cases h1
    unfold PySem.W.kitAny
    rw [z]
    exact h2
  · cases h1
theorem kit_self : PySem.W.kitAny K (.ref C) [.ref C] = some true := by
  have e : PySem.W.kitOne K (.ref C) (.ref C) = some true := by
    unfold PySem.W.kitOne
    rw [if_pos (beq_self_eq_true _)]
  exact kitAny_cons e (fun h => nomatch h) fun _ => rfl
theorem kit_VE (h : PySem.W.subIn K (.ref C) (.type "ValueError") = some true) : PySem.W.kitAny K (.ref C) [.type "ValueError"] = some true := by
  have e : PySem.W.kitOne K (.ref C) (.type "ValueError") = some true := by
    unfold PySem.W.kitOne
    rw [if_neg (show ¬ (Value.ref C == Value.type "ValueError") = true from fun z => nomatch (beq_iff_eq.mp z))]
    show (if PySem.W.kitMeta "ValueError" = true then PySem.W.subIn K (.ref C) (.type "ValueError") else none) = some true
    rw [if_pos (by decide +kernel)]
    exact h
  exact kitAny_cons e (fun h => nomatch h) fun _ => rfl
end
end Vs

set_option Elab.async false
set_option linter.all false
set_option maxRecDepth 100000
set_option maxHeartbeats 2000000
/-! Vs4: more of the built-ins. -/
namespace Vs
open PySem L2
/-! ### < over data -/
def rLtD (K : PySem.W.Frag) : R2 := fun x y H Q => ∃ d e, Dp K H x d ∧ Dp K H y e ∧ PySem.W.alike d e = true ∧ d ≠ .none ∧ d.depth ≤ 64 ∧ Q (.bl (PySem.W.dataLt d e)) H
theorem op_ltD {X : Cx} (hu : X.A.units + 64 < cLine) : OpR X (compareOp .Lt) (rLtD X.K) := by
  intro pins s σ H x y v u Q I rx ry h
  obtain ⟨d, e, hd, he, ha, hn, hz, q⟩ := h
  obtain ⟨as, r1⟩ := Dp.reads I d x v hd rx
  obtain ⟨bs, r2⟩ := Dp.reads I e y u he ry
  exact PySem.W.lt_data r1 r2 ha hn (by omega) ⟨.bl _, H, I, rfl, q⟩
def dLt (x y : D) : Option Bool := if x.pl = true ∧ y.pl = true ∧ PySem.W.alike x.toP y.toP = true ∧ x.toP.depth ≤ 64 then some (PySem.W.dataLt x.toP y.toP) else none
def cLtA : D → D → Option Bool
  | .int i, .int j => some (decide (i < j))
  | .str a, .str b => some (decide (a < b))
  | .lst a, .lst b => dLt (.lst a) (.lst b)
  | .tup a, .tup b => dLt (.tup a) (.tup b)
  | _, _ => none
def rLtA (κ : Kx) : R2 := fun x y H Q => rCm (fun i j => decide (i < j)) (fun a b => decide (a < b)) x y H Q ∨ rLtD κ.K x y H Q
theorem o_ltA {X : Cx} {κ : Kx} (hK : X.K = κ.K) (hu : X.A.units + 64 < cLine) : OpR X (compareOp .Lt) (rLtA κ) := by
  unfold rLtA
  rw [← hK]
  exact OpR.or o_lt (op_ltD hu)
theorem dLt_of {κ : Kx} {x y : V} {dx dy : D} {z : Bool} {H G : Hp} {Q : VK} (hn : dx.toP ≠ .none) (e : dLt dx dy = some z) (s : Same G H) (rx : RBq κ H G x dx) (ry : RBq κ H G y dy) (q : Q (.bl z) H) : rLtD κ.K x y H Q := by
  unfold dLt at e
  split at e
  · rename_i h
    cases e
    exact ⟨_, _, rx.dp s h.1, ry.dp s h.2.1, h.2.2.1, hn, h.2.2.2, q⟩
  · cases e
theorem s_ltA {κ : Kx} : OpB κ (rLtA κ) cLtA := fun x y dx dy z H G Q e s rx ry q => by
  cases dx <;> cases dy <;> try (cases e; done)
  · rename_i i j
    exact .inl (s_cm x y (.int i) (.int j) z H G Q e s rx ry q)
  · rename_i i j
    exact .inl (s_cm x y (.str i) (.str j) z H G Q e s rx ry q)
  · exact .inr (dLt_of (by simp only [D.toP]; exact fun z => nomatch z) e s rx ry q)
  · exact .inr (dLt_of (by simp only [D.toP]; exact fun z => nomatch z) e s rx ry q)
/-! ### in, over data -/
def inD (x y : D) : Option Bool := match y with
  | .lst l => if x.okE = true ∧ (D.lst l).okE = true then some ((toPA l).any fun z => PyData.eqv z x.toP) else none
  | _ => none
/-- the one text within the other -/
def subT (v w : List Nat) : Bool := !(Builtin.Str.occurrences (S w) (S v) 0 (S w).length 1).isEmpty
def inT (x y : D) : Option Bool := match x, y with
  | .str v, .str w => some (subT v w)
  | _, _ => none
def cInA : D → D → Option Bool := fun x y => match cIn x y with
  | some b => some b
  | none => match inD x y with
    | some b => some b
    | none => inT x y
def cNinA : D → D → Option Bool := fun x y => match cInA x y with
  | some b => some (!b)
  | none => none
theorem units65 {k : Nat} {A : Around} (r : Room k A) : A.units + 65 < cLine := by have := r.un; omega
def rInT (neg : Bool) : R2 := fun x y H Q => ∃ i j, x = .str i ∧ y = .str j ∧ Q (.bl (if neg then !(!(Builtin.Str.occurrences j i 0 j.length 1).isEmpty) else !(Builtin.Str.occurrences j i 0 j.length 1).isEmpty)) H
def rInX (κ : Kx) : R2 := fun x y H Q => (rInA κ false x y H Q ∨ rInD κ.K x y H Q) ∨ rInT false x y H Q
def rNinX (κ : Kx) : R2 := fun x y H Q => (rInA κ true x y H Q ∨ rNotInD κ.K x y H Q) ∨ rInT true x y H Q
theorem inT_of {κ : Kx} {x y : V} {dx dy : D} {z : Bool} {H G : Hp} (e : inT dx dy = some z) (rx : RBq κ H G x dx) (ry : RBq κ H G y dy) : ∃ i j, x = .str i ∧ y = .str j ∧ z = !(Builtin.Str.occurrences j i 0 j.length 1).isEmpty := by
  cases dx <;> cases dy <;> try (cases e; done)
  rename_i v w
  cases e
  exact ⟨S v, S w, rx.str, ry.str, rfl⟩
theorem o_inA {X : Cx} {κ : Kx} (hK : X.K = κ.K) (hr : X.A.units + 65 < cLine) : OpR X (compareOp .In) (rInX κ) := by
  unfold rInX
  refine OpR.or (OpR.or (o_in hK) ?_) op_in_str
  rw [← hK]
  exact op_inD hr
theorem o_ninA {X : Cx} {κ : Kx} (hK : X.K = κ.K) (hr : X.A.units + 65 < cLine) : OpR X (compareOp .NotIn) (rNinX κ) := by
  unfold rNinX
  refine OpR.or (OpR.or (o_nin hK) ?_) op_notin_str
  rw [← hK]
  exact op_notInD hr
theorem inD_of {κ : Kx} {x y : V} {dx dy : D} {z : Bool} {H G : Hp} (e : inD dx dy = some z) (s : Same G H) (rx : RBq κ H G x dx) (ry : RBq κ H G y dy) : ∃ d ds, Dp κ.K H x d ∧ Dp κ.K H y (.list ds) ∧ SeqAt.shaped d = true ∧ SeqAt.shaped (.list ds) = true ∧ z = ds.any fun u => PyData.eqv u d := by
  cases dy with
  | lst l =>
    dsimp only [inD] at e
    by_cases o : dx.okE = true ∧ (D.lst l).okE = true
    · rw [if_pos o] at e
      cases e
      have hl := ry.dp s (okE_pl o.2)
      have hs := okE_shaped o.2
      simp only [D.toP] at hl hs
      exact ⟨_, _, rx.dp s (okE_pl o.1), hl, okE_shaped o.1, hs, rfl⟩
    · rw [if_neg o] at e; cases e
  | _ => cases e
theorem s_inA {κ : Kx} : OpB κ (rInX κ) cInA := fun x y dx dy z H G Q e s rx ry q => by
  unfold cInA at e
  cases h : cIn dx dy with
  | some b =>
    rw [h] at e
    cases e
    exact .inl (.inl (s_in x y dx dy _ H G Q h s rx ry q))
  | none =>
    rw [h] at e
    dsimp only at e
    cases h2 : inD dx dy with
    | some b =>
      rw [h2] at e
      cases e
      obtain ⟨d, ds, h1, h2, h3, h4, h5⟩ := inD_of h2 s rx ry
      exact .inl (.inr ⟨d, ds, h1, h2, h3, h4, h5 ▸ q⟩)
    | none =>
      rw [h2] at e
      obtain ⟨i, j, h1, h2, h3⟩ := inT_of e rx ry
      exact .inr ⟨i, j, h1, h2, h3 ▸ q⟩
theorem s_ninA {κ : Kx} : OpB κ (rNinX κ) cNinA := fun x y dx dy z H G Q e s rx ry q => by
  unfold cNinA at e
  cases h : cInA dx dy with
  | none => rw [h] at e; cases e
  | some b =>
    rw [h] at e
    cases e
    unfold cInA at h
    cases h2 : cIn dx dy with
    | some b2 =>
      rw [h2] at h
      cases h
      exact .inl (.inl (s_nin x y dx dy _ H G Q (by unfold cNin; rw [h2]) s rx ry q))
    | none =>
      rw [h2] at h
      dsimp only at h
      cases h3 : inD dx dy with
      | some b2 =>
        rw [h3] at h
        cases h
        obtain ⟨d, ds, h1, h2, h3, h4, h5⟩ := inD_of h3 s rx ry
        exact .inl (.inr ⟨d, ds, h1, h2, h3, h4, h5 ▸ q⟩)
      | none =>
        rw [h3] at h
        obtain ⟨i, j, h1, h2, h3⟩ := inT_of h rx ry
        exact .inr ⟨i, j, h1, h2, h3 ▸ q⟩
/-! ### reversed(range(..)) -/
section
variable {X : Cx} {κ : Kx} {W : WX} {tg a b e : Expr} {ma mb : Sm D} {p p2 pos pos2 : Pos}
def rngR (s : Int) (n : Nat) : List D := (List.range n).map fun (k : Nat) => D.int (s - (k : Int))
theorem rngR_yields {s : Int} {n : Nat} {σ : L2.St} {N : Addr → Prop} {H : Hp} {G : Gh} {env : En} : RI κ σ N H G env (Itc s (-1) n) (rngR s n) := by
  refine ⟨fun _ => False, fun _ z => z.elim, fun H' G' _ _ _ i => ⟨fun d hd => ?_, fun hi => ?_⟩⟩
  · unfold rngR at hd
    rw [List.getElem?_map] at hd
    cases hw : (List.range n)[i]? with
    | none => rw [hw] at hd; cases hd
    | some k =>
      rw [hw] at hd
      cases hd
      obtain ⟨hi, ek⟩ := List.getElem?_eq_some_iff.mp hw
      rw [List.getElem_range] at ek
      subst ek
      exact ⟨show i < n by simpa using hi, fun y H2 ⟨e2, ey⟩ => .inl ⟨e2, by rw [ey, show s + (i : Int) * -1 = s - (i : Int) by omega]; exact .int _⟩⟩
  · show n ≤ i
    unfold rngR at hi
    simpa using hi
def fRr1 (m : Sm D) : Sm (List D) := bnd m fun d e => match d with
  | .int j => if j ≤ 1000000 ∧ -1000000 ≤ j then some (.ok (rngR (((j.toNat : Nat) : Int) - 1) j.toNat) e) else none
  | _ => none
def fRr2 (ma mb : Sm D) : Sm (List D) := bnd ma fun d => bnd mb fun f e => match d, f with
  | .int i, .int j => if (j ≤ 1000000 ∧ -1000000 ≤ j) ∧ i ≤ 1000000 ∧ -1000000 ≤ i then some (.ok (rngR (i + (((j - i).toNat : Nat) : Int) - 1) (j - i).toNat) e) else none
  | _, _ => none
theorem i_rr1 (hg : Gl X "reversed") (hm : X.mg "reversed" = none) (hg2 : Gl X "range") (hm2 : X.mg "range" = none) (h : PE X a (tX κ W (RB κ) ma)) (na : starEach [a] X.env = (false, eval a X.env) :: starEach [] X.env := by rfl)
    (hs : starEach [.Call (.Name "range" p) [a] [] pos] X.env = (false, eval (.Call (.Name "range" p) [a] [] pos) X.env) :: starEach [] X.env := by rfl) :
    PI X tg (.Call (.Name "reversed" p2) [.Call (.Name "range" p) [a] [] pos] [] pos2) (tX κ W (RI κ) (fRr1 ma)) := ⟨fun pins s σ H R I ⟨G, env, r, q⟩ => (pi_revR hg hm (prg_1 hg2 hm2 h na) hs).run pins s σ H R I (bind_post r q fun d e1 v H1 G1 em r1 rv s1 f1 q1 => by
  cases d with
  | int j =>
    dsimp only at q1
    by_cases hj : j ≤ 1000000 ∧ -1000000 ≤ j
    · rw [if_pos hj] at q1
      refine ⟨j, RBq.int rv, by omega, by omega, by omega, by omega, ?_⟩
      rw [show (0 : Int) + (((j - 0).toNat : Nat) : Int) - 1 = ((j.toNat : Nat) : Int) - 1 by omega, show (j - 0).toNat = j.toNat by omega]
      exact q1 _ H1 G1 r1 rngR_yields (Grw.refl _) Fr.refl
    · rw [if_neg hj] at q1; exact q1.elim
  | _ => exact q1.elim)⟩
theorem i_rr2 (hg : Gl X "reversed") (hm : X.mg "reversed" = none) (hg2 : Gl X "range") (hm2 : X.mg "range" = none) (h : PE X a (tX κ W (RB κ) ma)) (hb : PE X b (tX κ W (RB κ) mb)) (na : starEach [a, b] X.env = (false, eval a X.env) :: starEach [b] X.env := by rfl) (nb : starEach [b] X.env = (false, eval b X.env) :: starEach [] X.env := by rfl) (hp : (backTo pos (starEach [b] X.env)).any (·.1) = false := by rfl)
    (hs : starEach [.Call (.Name "range" p) [a, b] [] pos] X.env = (false, eval (.Call (.Name "range" p) [a, b] [] pos) X.env) :: starEach [] X.env := by rfl) :
    PI X tg (.Call (.Name "reversed" p2) [.Call (.Name "range" p) [a, b] [] pos] [] pos2) (tX κ W (RI κ) (fRr2 ma mb)) := ⟨fun pins s σ H R I ⟨G, env, r, q⟩ => (pi_revR hg hm (prg_2 hg2 hm2 h hb na nb hp) hs).run pins s σ H R I (bind_post r q fun d e1 v H1 G1 em r1 rv s1 f1 q1 => bind_post r1 q1 fun d2 e2 v2 H2 G2 em2 r2 rv2 s2 f2 q2 => by
  cases d <;> cases d2 <;> try (exact q2.elim)
  rename_i i j
  dsimp only at q2
  by_cases hj : (j ≤ 1000000 ∧ -1000000 ≤ j) ∧ i ≤ 1000000 ∧ -1000000 ≤ i
  · rw [if_pos hj] at q2
    exact ⟨i, j, RBq.int rv, RBq.int rv2, by omega, by omega, by omega, by omega, q2 _ H2 G2 r2 rngR_yields (Grw.refl _) Fr.refl⟩
  · rw [if_neg hj] at q2; exact q2.elim)⟩
end
/-! ### int(..) -/
def opInt : List D → Option Rs
  | [.int i] => some (.sh (.int i))
  | [.bl b] => some (.sh (.int (if b then 1 else 0)))
  | [.str w] => if w.length ≤ 640 then match PySem.intText? (S w) with
    | some n => some (.sh (.int n))
    | none => none
    else none
  | _ => none
def rIntA : List V → Hp → VK → Prop := fun xs H Q => ((∃ i, xs = [.int i] ∧ Q (.int i) H) ∨ ∃ k, xs = [.bl k] ∧ Q (.int (if k then 1 else 0)) H) ∨ ∃ a n, xs = [.str a] ∧ PySem.intText? a = some n ∧ a.length ≤ 640 ∧ Q (.int n) H
theorem call_intA {X : Cx} : CallR X (.type "int") rIntA := fun pins s σ H xs us Q I r h => by
  rcases h with h | h
  · exact call_int1 pins s σ H xs us Q I r h
  · exact call_int_str pins s σ H xs us Q I r h
theorem s_int {κ : Kx} : ClV κ [true] rIntA opInt := fun W σ vs ds z H G env Q e r rx q => by
  match ds, rx with
  | [d], rx =>
    obtain ⟨v, rfl, rv⟩ := rx.one
    cases d <;> try (cases e; done)
    · cases e
      exact .inl (.inr ⟨_, by rw [rv.bl], post_sh r (.int _) q⟩)
    · cases e
      exact .inl (.inl ⟨_, by rw [rv.int], post_sh r (.int _) q⟩)
    · rename_i w
      dsimp only [opInt] at e
      by_cases hl : w.length ≤ 640
      · rw [if_pos hl] at e
        cases hn : PySem.intText? (S w) with
        | none => rw [hn] at e; cases e
        | some n =>
          rw [hn] at e
          cases e
          exact .inr ⟨S w, n, by rw [rv.str], hn, by rw [S_len]; exact hl, post_sh r (.int _) q⟩
      · rw [if_neg hl] at e; cases e
  | [], rx => cases e
  | x :: y :: t, rx => cases x <;> cases e
/-! ### a, b = x, y -/
def sPar (i j : Nat) (m : Sm (List D)) : Ss := sbnd m fun ds e => match ds with
  | [x, y] => if i < e.length ∧ j < e.length then some (.nx ((e.set i (.sh x)).set j (.sh y))) else none
  | _ => none
section
variable {X : Cx} {κ : Kx} {W : WX} {m : Sm (List D)}
theorem s_par {i j : Nat} {x y : Str} {a b : Expr} {px py pt : Pos} {kt k2 pt2} {pos : Pos} (hc : X.calm = true) (hN : X.N.Nodup) (hi : X.N[i]? = some x) (hj : X.N[j]? = some y) (hij : i ≠ j)
    (hx : X.env.scope.names.lookup x = some .local) (hy : X.env.scope.names.lookup y = some .local) (ha : PA X [a, b] (tX κ W (RA κ [false, false]) m))
    (hw : swappedStores [.Tuple [.Name x px, .Name y py] kt pt] (.Tuple [a, b] k2 pt2) X.env = pure (some [x, y]))
    (hs : swapsWithSole [.Tuple [.Name x px, .Name y py] kt pt] (.Tuple [a, b] k2 pt2) pos.line X.env = pure false := by rfl) :
    PS X (.Assign [.Tuple [.Name x px, .Name y py] kt pt] (.Tuple [a, b] k2 pt2) pos) (tS κ W (sPar i j m)) := PS.imp (ps_par hc hN hi hj hij hx hy (im_a ha) hw hs) fun D0 σ H ⟨G, env, r, q⟩ => sbind_post r q fun ds e1 vs H1 G1 _ r1 rv f1 q1 => by
  match ds, rv, q1 with
  | [x, y], rv, q1 =>
    cases rv with
    | sh rx t =>
      cases t with
      | sh ry t2 =>
        cases t2
        dsimp only at q1
        by_cases hl : i < e1.length ∧ j < e1.length
        · rw [if_pos hl] at q1
          obtain ⟨G2, eg, ra, fa⟩ := rep_sh r1 hl.1 rx
          obtain ⟨G3, _, rb, fb⟩ := rep_sh ra (i := j) (by rw [List.length_set]; exact hl.2) (by rw [eg]; exact ry)
          exact ⟨_, _, rfl, q1 _ H1 G3 rb (fa.trans fb)⟩
        · rw [if_neg hl] at q1; exact q1.elim
  | [], rv, q1 => exact q1.elim
  | [_], rv, q1 => exact q1.elim
  | _ :: _ :: _ :: _, rv, q1 => exact q1.elim
end
/-! ### what is walked, of any kind -/
theorem PI.or {X : Cx} {tg e : Expr} {w w' : TI} (h : PI X tg e w) (h' : PI X tg e w') : PI X tg e (fun σ H R => w σ H R ∨ w' σ H R) :=
  ⟨fun pins s σ H R I q => q.elim (h.run pins s σ H R I) (h'.run pins s σ H R I)⟩
theorem PI.imp {X : Cx} {tg e : Expr} {w w' : TI} (h : PI X tg e w) (k : ∀ σ H R, w' σ H R → w σ H R) : PI X tg e w' := ⟨fun pins s σ H R I q => h.run pins s σ H R I (k σ H R q)⟩
def itD : D → Option (List D)
  | .lst l => some l
  | .tup l => some l
  | .str w => some (w.map fun c => .str [c])
  | .scr l => some (l.map D.int)
  | _ => none
def fItA (m : Sm D) : Sm (List D) := bnd m fun d e => match itD d with
  | some l => some (.ok l e)
  | none => none
def eItA (i : Nat) : Sm (List D) := fun env => match env[i]? with
  | some (.sh d) => match itD d with
    | some l => some (.ok l env)
    | none => none
  | some (.lk l) => some (.ok l env)
  | some (.bo l) => some (.ok l env)
  | _ => none
section
variable {X : Cx} {κ : Kx} {W : WX} {e tg : Expr} {m : Sm D} {pos : Pos}
theorem sc_yields {σ : L2.St} {N : Addr → Prop} {H : Hp} {G : Gh} {env : En} {a : Addr} {ns : List Int} (h : SqL κ.K G a (ns.map V.int)) : RI κ σ N H G env (Itl κ.K a) (ns.map D.int) := by
  refine ⟨fun _ => False, fun _ z => z.elim, fun H' G' _ sg sh i => ?_⟩
  have hl : SqL κ.K H' a (ns.map V.int) := same_l sh (same_l (gr sg) h)
  refine ⟨fun d hd => ?_, fun hi => ⟨_, hl, by rw [List.length_map]; simpa using hi⟩⟩
  rw [List.getElem?_map] at hd
  cases hw : ns[i]? with
  | none => rw [hw] at hd; cases hd
  | some n =>
    rw [hw] at hd
    cases hd
    have hx : (ns.map V.int)[i]? = some (V.int n) := by rw [List.getElem?_map, hw]; rfl
    exact ⟨⟨_, _, hl, hx⟩, fun y H2 ⟨e2, hy⟩ => .inl ⟨e2, by
      have := hy _ hl
      rw [hx] at this
      cases this
      exact .int n⟩⟩
theorem i_scr (hK : X.K = κ.K) (h : PE X e (tX κ W (RP κ) m)) : PI X tg e (tX κ W (RI κ) (bnd m fun d e => match d with
    | .scr l => some (.ok (l.map D.int) e)
    | _ => none)) := ⟨fun pins s σ H R I ⟨G, env, r, q⟩ => (pi_list h).run pins s σ H R I (bind_post r q fun d e1 v H1 G1 em r1 rv s1 f1 q1 => by
  cases d with
  | scr l =>
    cases rv with
    | scr h3 =>
      refine ⟨_, rfl, ⟨l.map V.int, ?_⟩, ?_⟩
      · rw [hK]; exact same_l r1.sub h3
      · rw [hK]; exact q1 _ H1 G1 r1 (sc_yields h3) (Grw.refl _) Fr.refl
  | _ => exact q1.elim)⟩
theorem i_any (hK : X.K = κ.K) (h : PE X e (tX κ W (RP κ) m)) : PI X tg e (tX κ W (RI κ) (fItA m)) :=
  PI.imp (PI.or (PI.or (i_list (l_of h)) (i_tup h)) (PI.or (i_str (v_bo h)) (i_scr hK h))) fun σ H R ⟨G, env, r, q⟩ => by
    unfold fItA bnd at q
    cases z : m env with
    | none => rw [z] at q; exact q.elim
    | some o => cases o with
      | ex x e1 =>
        rw [z] at q
        refine .inl (.inl ⟨G, env, r, ?_⟩)
        unfold fIt bnd
        rw [z]
        exact q
      | ok d e1 =>
        rw [z] at q
        cases d with
        | lst l =>
          refine .inl (.inl ⟨G, env, r, ?_⟩)
          unfold fIt bnd
          rw [z]
          exact q
        | tup l =>
          refine .inl (.inr ⟨G, env, r, ?_⟩)
          unfold fTp bnd
          rw [z]
          exact q
        | str l =>
          refine .inr (.inl ⟨G, env, r, ?_⟩)
          unfold fSg bnd
          rw [z]
          exact q
        | scr l =>
          refine .inr (.inr ⟨G, env, r, ?_⟩)
          unfold bnd
          rw [z]
          exact q
        | _ => exact q.elim
theorem i_anyN {i : Nat} {x : Str} (hK : X.K = κ.K) (h : PE X (.Name x pos) (tVar i)) : PI X tg (.Name x pos) (tX κ W (RI κ) (eItA i)) :=
  PI.imp (PI.or (i_list (l_name h)) (i_any hK (v_var h))) fun σ H R ⟨G, env, r, q⟩ => by
    unfold eItA at q
    cases z : env[i]? with
    | none => rw [z] at q; exact q.elim
    | some s =>
      rw [z] at q
      cases s with
      | un => exact q.elim
      | ow l => exact q.elim
      | io l => exact q.elim
      | tr l => exact q.elim
      | lk l =>
        refine .inl ⟨G, env, r, ?_⟩
        unfold eIt
        rw [z]
        exact q
      | bo l =>
        refine .inl ⟨G, env, r, ?_⟩
        unfold eIt
        rw [z]
        exact q
      | sh d =>
        refine .inr ⟨G, env, r, ?_⟩
        unfold fItA bnd eV
        rw [z]
        exact q
end
end Vs

set_option Elab.async false
set_option linter.all false
set_option maxRecDepth 100000
set_option maxHeartbeats 2000000
/-! Vs5: classes; things handed in to be changed. -/
namespace Vs
open PySem L2
/-! ### fields -/
/-- where a field stands, by the class's number -/
structure FldOk (κ : Kx) (f : Str) (tab : Nat → Option Nat) : Prop where
  ok : ∀ c k, tab c = some k → L2.Cls κ.K (κ.cl c) ∧ L2.NoAttr κ.K (κ.cl c) f ∧ (κ.fl c)[k]? = some f ∧ (κ.fl c).Nodup ∧ (κ.fl c).length < 1000
theorem lookup_at : ∀ {ys : List (Str × V)} {L : List Str} {n k : Nat} {f : Str} {v : V}, ys.map Prod.fst = L.take n → L.Nodup → L[k]? = some f → (ys.map Prod.snd)[k]? = some v → ys.lookup f = some v
  | [], L, n, k, f, v, _, _, _, h => by simp at h
  | (g, x) :: ys, [], n, k, f, v, e, _, _, _ => by simp at e
  | (g, x) :: ys, h :: L, 0, k, f, v, e, _, _, _ => by simp at e
  | (g, x) :: ys, h :: L, n + 1, 0, f, v, e, _, hk, hv => by
    simp only [List.map_cons, List.take_succ_cons, List.cons.injEq] at e
    simp only [List.getElem?_cons_zero, Option.some.injEq] at hk
    simp only [List.map_cons, List.getElem?_cons_zero, Option.some.injEq] at hv
    have e1 : g = f := e.1.trans hk
    simp only [List.lookup, e1, beq_self_eq_true, hv]
  | (g, x) :: ys, h :: L, n + 1, k + 1, f, v, e, nd, hk, hv => by
    simp only [List.map_cons, List.take_succ_cons, List.cons.injEq] at e
    simp only [List.getElem?_cons_succ] at hk
    simp only [List.map_cons, List.getElem?_cons_succ] at hv
    have nd' := List.nodup_cons.mp nd
    have ne : ¬ f = g := fun z => nd'.1 (by rw [← e.1, ← z]; exact List.mem_of_getElem? hk)
    have hb : (f == g) = false := by simpa using ne
    simp only [List.lookup, hb]
    exact lookup_at e.2 nd'.2 hk hv
theorem lookup_out {ys : List (Str × V)} {L : List Str} {n : Nat} {m : Str} (e : ys.map Prod.fst = L.take n) (h : m ∉ L) : ys.lookup m = none := by
  cases q : ys.lookup m with
  | none => rfl
  | some v =>
    exfalso
    refine h (List.mem_of_mem_take (i := n) ?_)
    rw [← e]
    clear e h
    induction ys with
    | nil => simp at q
    | cons y ys ih =>
      obtain ⟨g, x⟩ := y
      simp only [List.lookup] at q
      by_cases z : (m == g) = true
      · have z' : m = g := by simpa using z
        subst z'
        exact List.mem_cons_self
      · rw [Bool.not_eq_true] at z
        rw [z] at q
        exact List.mem_cons_of_mem _ (ih q)
/-- e.f of what all may hold -/
def fFld (tab : Nat → Option Nat) (m : Sm D) : Sm D := bnd m fun d e => match d with
  | .ob c ds => match tab c with
    | some k => match ds[k]? with
      | some x => some (.ok x e)
      | none => none
    | none => none
  | _ => none
section
variable {X : Cx} {κ : Kx} {W : WX} {e : Expr} {m : Sm D} {f : Str} {pos : Pos} {tab : Nat → Option Nat}
theorem v_fld (hf : FldOk κ f tab) (hK : X.K = κ.K) (he : PE X e (tX κ W (RP κ) m)) (hb : attributeBase e f X.env (eval e X.env) = eval e X.env := by rfl) : PE X (.Attribute e f pos) (tX κ W (RP κ) (fFld tab m)) :=
  PE.imp (pe_fld he hb) fun σ H Q ⟨G, env, r, q⟩ => bind_post r q fun d e1 x H1 G1 _ r1 rx s1 f1 q1 => by
    cases d with
    | ob c ds =>
      dsimp only at q1
      cases w : tab c with
      | none => rw [w] at q1; exact q1.elim
      | some k =>
        rw [w] at q1
        dsimp only at q1
        cases y : ds[k]? with
        | none => rw [y] at q1; exact q1.elim
        | some z =>
          rw [y] at q1
          obtain ⟨h1, h2, h3, h4, _⟩ := hf.ok c k w
          cases rx with
          | ob g1 g2 g3 =>
            obtain ⟨v, hv, rv⟩ := g3.getD y
            rw [hK]
            exact ⟨_, _, _, _, v, rfl, r1.sub _ _ g1, h1, h2, lookup_at g2 h4 h3 hv, q1 v H1 G1 r1 rv (Grw.refl _) Fr.refl⟩
    | _ => exact q1.elim
/-- an own object at slot i -/
def obAt (e : En) (i : Nat) : Option (Nat × List Fd) := match e[i]? with
  | some (.io (.ob c fs)) => some (c, fs)
  | some (.tr (.ob c fs)) => some (c, fs)
  | _ => none
theorem obAt_of {e : En} {i c : Nat} {fs : List Fd} (h : obAt e i = some (c, fs)) : ∃ s, e[i]? = some s ∧ getO s = some (.ob c fs) := by
  unfold obAt at h
  split at h
  · rename_i c' fs' q; cases h; exact ⟨_, q, rfl⟩
  · rename_i c' fs' q; cases h; exact ⟨_, q, rfl⟩
  · cases h
def eFd (i : Nat) (tab : Nat → Option Nat) (e : En) : Option Fd := match obAt e i with
  | some (c, fs) => match tab c with
    | some k => fs[k]?
    | none => none
  | none => none
/-- self.f, given away, looked at -/
def eFV (i : Nat) (tab : Nat → Option Nat) : Sm D := fun e => match eFd i tab e with
  | some (.sh d) => some (.ok d e)
  | _ => none
def eFB (i : Nat) (tab : Nat → Option Nat) : Sm D := fun e => match eFd i tab e with
  | some f => some (.ok f.d e)
  | none => none
theorem RFs.at {H G : Hp} : ∀ {vs : List V} {fs : List Fd} {F : List Addr}, RFs κ H G vs fs F → ∀ {k : Nat} {x : Fd}, fs[k]? = some x → ∃ v, vs[k]? = some v ∧ ((∃ d, x = .sh d ∧ Rp κ G v d) ∨ ∃ a xs l, x = .ow l ∧ v = .ref a ∧ H a = some (.lst xs) ∧ G a = none ∧ RpA κ G xs l ∧ a ∈ F)
  | _, _, _, .nil, k, x, h => by simp at h
  | _, _, _, .sh r t, 0, x, h => by
    simp only [List.getElem?_cons_zero, Option.some.injEq] at h
    subst h
    exact ⟨_, rfl, .inl ⟨_, rfl, r⟩⟩
  | _, _, _, .ow h1 h2 h3 h4 t, 0, x, h => by
    simp only [List.getElem?_cons_zero, Option.some.injEq] at h
    subst h
    exact ⟨_, rfl, .inr ⟨_, _, _, rfl, rfl, h1, h2, h3, List.mem_cons_self⟩⟩
  | _, _, _, .sh r t, k + 1, x, h => by
    obtain ⟨v, h1, h2⟩ := RFs.at t (by simpa using h)
    exact ⟨v, by simpa using h1, h2⟩
  | _, _, _, .ow g1 g2 g3 g4 t, k + 1, x, h => by
    obtain ⟨v, h1, h2⟩ := RFs.at t (by simpa using h)
    refine ⟨v, by simpa using h1, ?_⟩
    rcases h2 with h2 | ⟨a, xs, l, h3, h4, h5, h6, h7, h8⟩
    · exact .inl h2
    · exact .inr ⟨a, xs, l, h3, h4, h5, h6, h7, List.mem_cons_of_mem _ h8⟩
theorem RO.ob_inv {H G : Hp} {v : V} {c : Nat} {fs : List Fd} {F : List Addr} (r : RO κ H G v (.ob c fs) F) : ∃ a dx ys F', v = .ref a ∧ F = a :: F' ∧ H a = some (.ins (κ.cl c) dx ys) ∧ G a = none ∧ ys.map Prod.fst = (κ.fl c).take fs.length ∧ RFs κ H G (ys.map Prod.snd) fs F' ∧ a ∉ F' := by
  cases r with
  | ob h1 h2 h3 h4 h5 => exact ⟨_, _, _, _, rfl, rfl, h1, h2, h3, h4, h5⟩
/-- what stands at an own object's slot -/
theorem ob_at {σ : L2.St} {H : Hp} {G : Gh} {env : En} {i c : Nat} {fs : List Fd} (r : Rep κ H G σ env) (h : obAt env i = some (c, fs)) : ∃ s a dx ys F', env[i]? = some s ∧ getO s = some (.ob c fs) ∧ σ[i]? = some (some (.ref a)) ∧ G.fp i = a :: F' ∧ H a = some (.ins (κ.cl c) dx ys) ∧ G.g a = none ∧ ys.map Prod.fst = (κ.fl c).take fs.length ∧ RFs κ H G (ys.map Prod.snd) fs F' ∧ a ∉ F' := by
  obtain ⟨s, e, g⟩ := obAt_of h
  obtain ⟨v, h1, ro⟩ := (r.slot i s e).th (getO_th g).1
  obtain ⟨a, dx, ys, F', rfl, h2, h3, h4, h5, h6, h7⟩ := ro.ob_inv
  exact ⟨s, a, dx, ys, F', e, g, h1, h2, h3, h4, h5, h6, h7⟩
theorem eFd_of {i : Nat} {e : En} {x : Fd} (h : eFd i tab e = some x) : ∃ c fs k, obAt e i = some (c, fs) ∧ tab c = some k ∧ fs[k]? = some x := by
  unfold eFd at h
  split at h
  · rename_i c fs q
    split at h
    · rename_i k w; exact ⟨c, fs, k, q, w, h⟩
    · cases h
  · cases h
theorem fld_tr (hf : FldOk κ f tab) (hK : X.K = κ.K) {i : Nat} {x : Fd} {σ : L2.St} {H : Hp} {G : Gh} {env : En} {Q : VK} (r : Rep κ H G σ env) (h : eFd i tab env = some x)
    (k : ∀ v, ((∃ d, x = .sh d ∧ Rp κ G v d) ∨ ∃ a xs l, x = .ow l ∧ v = .ref a ∧ H a = some (.lst xs) ∧ G.g a = none ∧ RpA κ G xs l ∧ a ∈ G.fp i) → Q v H) : tFld X.K (tVar i) f σ H Q := by
  obtain ⟨c, fs, n, h1, h2, h3⟩ := eFd_of h
  obtain ⟨s, a, dx, ys, F', e, g, h4, h5, h6, h7, h8, h9, h10⟩ := ob_at r h1
  obtain ⟨v, hv, rv⟩ := h9.at h3
  obtain ⟨g1, g2, g3, g4, _⟩ := hf.ok c n h2
  refine ⟨_, h4, a, _, dx, ys, v, rfl, h6, by rw [hK]; exact g1, by rw [hK]; exact g2, lookup_at h8 g4 g3 hv, k v ?_⟩
  rcases rv with rv | ⟨b, xs, l, q1, q2, q3, q4, q5, q6⟩
  · exact .inl rv
  · exact .inr ⟨b, xs, l, q1, q2, q3, q4, q5, by rw [h5]; exact List.mem_cons_of_mem _ q6⟩
theorem v_fV {i : Nat} {x : Str} {np : Pos} (hf : FldOk κ f tab) (hK : X.K = κ.K) (he : PE X (.Name x np) (tVar i)) (hb : attributeBase (.Name x np) f X.env (eval (.Name x np) X.env) = eval (.Name x np) X.env := by rfl) : PE X (.Attribute (.Name x np) f pos) (tX κ W (RP κ) (eFV i tab)) :=
  PE.imp (pe_fld he hb) fun σ H Q ⟨G, env, r, q⟩ => by
    unfold eFV at q
    split at q
    · rename_i d h
      exact fld_tr hf hK r h fun v rv => by
        rcases rv with ⟨d', e, rp⟩ | ⟨a, xs, l, e, _⟩
        · cases e; exact q v H G r rp (Grw.refl _) Fr.refl
        · cases e
    · exact q.elim
theorem v_fB {i : Nat} {x : Str} {np : Pos} (hf : FldOk κ f tab) (hK : X.K = κ.K) (he : PE X (.Name x np) (tVar i)) (hb : attributeBase (.Name x np) f X.env (eval (.Name x np) X.env) = eval (.Name x np) X.env := by rfl) : PE X (.Attribute (.Name x np) f pos) (tX κ W (RB κ) (eFB i tab)) :=
  PE.imp (pe_fld he hb) fun σ H Q ⟨G, env, r, q⟩ => by
    unfold eFB at q
    split at q
    · rename_i d h
      exact fld_tr hf hK r h fun v rv => by
        rcases rv with ⟨d', e, rp⟩ | ⟨a, xs, l, e, e2, e3, e4, e5, e6⟩
        · cases e; exact q v H G r (.inl rp) (Grw.refl _) Fr.refl
        · cases e; exact q v H G r (.inr ⟨a, xs, l, rfl, e2, e3, e5⟩) (Grw.refl _) Fr.refl
    · exact q.elim
end
/-! ### a field stored -/
theorem putF_names {f : Str} {v : V} : ∀ {ys : List (Str × V)} {L : List Str} {n k : Nat}, ys.map Prod.fst = L.take n → n ≤ L.length → L.Nodup → L[k]? = some f → k ≤ n →
    (putF f v ys).map Prod.fst = L.take (if k < n then n else n + 1) ∧ (putF f v ys).map Prod.snd = if k < n then (ys.map Prod.snd).set k v else ys.map Prod.snd ++ [v]
  | [], L, 0, k, e, _, _, hk, hn => by
    obtain rfl : k = 0 := by omega
    cases L with
    | nil => simp at hk
    | cons h L =>
      simp only [List.getElem?_cons_zero, Option.some.injEq] at hk
      subst hk
      simp [putF]
  | [], L, n + 1, k, e, hl, _, hk, hn => by
    cases L with
    | nil => simp at hl
    | cons h L => simp at e
  | (g, x) :: ys, L, 0, k, e, _, _, _, _ => by simp at e
  | (g, x) :: ys, [], n + 1, k, e, _, _, _, _ => by simp at e
  | (g, x) :: ys, h :: L, n + 1, 0, e, hl, nd, hk, hn => by
    simp only [List.map_cons, List.take_succ_cons, List.cons.injEq] at e
    simp only [List.getElem?_cons_zero, Option.some.injEq] at hk
    have e1 : g = f := e.1.trans hk
    simp only [putF, e1, if_true, List.map_cons, Nat.zero_lt_succ, List.set_cons_zero, List.take_succ_cons, e.2]
    exact ⟨by rw [← hk], trivial⟩
  | (g, x) :: ys, h :: L, n + 1, k + 1, e, hl, nd, hk, hn => by
    simp only [List.map_cons, List.take_succ_cons, List.cons.injEq] at e
    simp only [List.getElem?_cons_succ] at hk
    have nd' := List.nodup_cons.mp nd
    have ne : ¬ g = f := fun z => nd'.1 (by rw [← e.1, z]; exact List.mem_of_getElem? hk)
    obtain ⟨i1, i2⟩ := putF_names (v := v) e.2 (by simpa using hl) nd'.2 hk (by omega)
    have c : (k + 1 < n + 1) = (k < n) := by rw [Nat.add_lt_add_iff_right]
    simp only [putF, if_neg ne, List.map_cons, i1, i2, c]
    by_cases w : k < n
    · simp only [if_pos w, List.take_succ_cons, List.set_cons_succ, e.1]; exact ⟨trivial, trivial⟩
    · simp only [if_neg w, List.take_succ_cons, List.cons_append, e.1]; exact ⟨trivial, trivial⟩
section
variable {κ : Kx} {H G : Hp}
theorem RFs.len : ∀ {vs : List V} {fs : List Fd} {F : List Addr}, RFs κ H G vs fs F → vs.length = fs.length
  | _, _, _, .nil => rfl
  | _, _, _, .sh _ t => by simp [RFs.len t]
  | _, _, _, .ow _ _ _ _ t => by simp [RFs.len t]
/-- a field replaced by a shared value, by a new own list -/
theorem RFs.setS {v : V} {d : D} (r : Rp κ G v d) : ∀ {vs : List V} {fs : List Fd} {F : List Addr} (k : Nat), RFs κ H G vs fs F → ∃ F', RFs κ H G (vs.set k v) (fs.set k (.sh d)) F' ∧ ∀ a, a ∈ F' → a ∈ F
  | _, _, _, k, .nil => ⟨[], by simpa using RFs.nil, fun a m => m⟩
  | _, _, _, 0, .sh _ t => ⟨_, .sh r t, fun a m => m⟩
  | _, _, _, 0, .ow _ _ _ _ t => ⟨_, .sh r t, fun a m => List.mem_cons_of_mem _ m⟩
  | _, _, _, k + 1, .sh q t => by
    obtain ⟨F', h1, h2⟩ := RFs.setS r k t
    exact ⟨F', .sh q h1, h2⟩
  | _, _, _, k + 1, .ow q1 q2 q3 q4 t => by
    obtain ⟨F', h1, h2⟩ := RFs.setS r k t
    exact ⟨_, .ow q1 q2 q3 (fun m => q4 (h2 _ m)) h1, fun a m => by
      rcases List.mem_cons.mp m with e | m
      · rw [e]; exact List.mem_cons_self
      · exact List.mem_cons_of_mem _ (h2 a m)⟩
theorem RFs.setL {b : Addr} {xs : List V} {l : List D} (hb : H b = some (.lst xs)) (gb : G b = none) (r : RpA κ G xs l) : ∀ {vs : List V} {fs : List Fd} {F : List Addr} (k : Nat), b ∉ F → k < fs.length → RFs κ H G vs fs F → ∃ F', RFs κ H G (vs.set k (.ref b)) (fs.set k (.ow l)) F' ∧ ∀ a, a ∈ F' → a ∈ F ∨ a = b
  | _, _, _, k, _, hk, .nil => by simp at hk
  | _, _, _, 0, nb, _, .sh _ t => ⟨_, .ow hb gb r nb t, fun a m => by
      rcases List.mem_cons.mp m with e | m
      · exact .inr e
      · exact .inl m⟩
  | _, _, _, 0, nb, _, .ow _ _ _ _ t => ⟨_, .ow hb gb r (fun m => nb (List.mem_cons_of_mem _ m)) t, fun a m => by
      rcases List.mem_cons.mp m with e | m
      · exact .inr e
      · exact .inl (List.mem_cons_of_mem _ m)⟩
  | _, _, _, k + 1, nb, hk, .sh q t => by
    obtain ⟨F', h1, h2⟩ := RFs.setL hb gb r k nb (by simpa using hk) t
    exact ⟨F', .sh q h1, h2⟩
  | _, _, _, k + 1, nb, hk, .ow q1 q2 q3 q4 t => by
    obtain ⟨F', h1, h2⟩ := RFs.setL hb gb r k (fun m => nb (List.mem_cons_of_mem _ m)) (by simpa using hk) t
    refine ⟨_, .ow q1 q2 q3 (fun m => ?_) h1, fun a m => ?_⟩
    · rcases h2 _ m with m | e
      · exact q4 m
      · exact nb (by rw [← e]; exact List.mem_cons_self)
    · rcases List.mem_cons.mp m with e | m
      · rw [e]; exact .inl List.mem_cons_self
      · rcases h2 a m with m | e
        · exact .inl (List.mem_cons_of_mem _ m)
        · exact .inr e
theorem RFs.addS {v : V} {d : D} (r : Rp κ G v d) : ∀ {vs : List V} {fs : List Fd} {F : List Addr}, RFs κ H G vs fs F → RFs κ H G (vs ++ [v]) (fs ++ [.sh d]) F
  | _, _, _, .nil => .sh r .nil
  | _, _, _, .sh q t => .sh q (RFs.addS r t)
  | _, _, _, .ow q1 q2 q3 q4 t => .ow q1 q2 q3 q4 (RFs.addS r t)
theorem RFs.addL {b : Addr} {xs : List V} {l : List D} (hb : H b = some (.lst xs)) (gb : G b = none) (r : RpA κ G xs l) : ∀ {vs : List V} {fs : List Fd} {F : List Addr}, b ∉ F → RFs κ H G vs fs F → ∃ F', RFs κ H G (vs ++ [.ref b]) (fs ++ [.ow l]) F' ∧ ∀ a, a ∈ F' → a ∈ F ∨ a = b
  | _, _, _, nb, .nil => ⟨[b], .ow hb gb r nb .nil, fun a m => .inr (List.mem_singleton.mp m)⟩
  | _, _, _, nb, .sh q t => by
    obtain ⟨F', h1, h2⟩ := RFs.addL hb gb r nb t
    exact ⟨F', .sh q h1, h2⟩
  | _, _, _, nb, .ow q1 q2 q3 q4 t => by
    obtain ⟨F', h1, h2⟩ := RFs.addL hb gb r (fun m => nb (List.mem_cons_of_mem _ m)) t
    refine ⟨_, .ow q1 q2 q3 (fun m => ?_) h1, fun a m => ?_⟩
    · rcases h2 _ m with m | e
      · exact q4 m
      · exact nb (by rw [← e]; exact List.mem_cons_self)
    · rcases List.mem_cons.mp m with e | m
      · rw [e]; exact .inl List.mem_cons_self
      · rcases h2 a m with m | e
        · exact .inl (List.mem_cons_of_mem _ m)
        · exact .inr e
end
def Rs.fd : Rs → Option Fd
  | .sh d => some (.sh d)
  | .ow l => some (.ow l)
  | .tr _ => none
def setF (fs : List Fd) (k : Nat) (x : Fd) : List Fd := if k < fs.length then fs.set k x else fs ++ [x]
/-- self.f = value -/
def sFldS (i : Nat) (tab : Nat → Option Nat) (m : Sm Rs) : Ss := sbnd m fun r e => match obAt e i with
  | some (c, fs) => match tab c with
    | some k => if k ≤ fs.length then match r.fd with
      | some x => match e[i]? with
        | some s => some (.nx (e.set i (setO s (.ob c (setF fs k x)))))
        | none => none
      | none => none
      else none
    | none => none
  | none => none
section
variable {κ : Kx} {σ σ0 : L2.St} {H H1 H2 : Hp} {G G1 : Gh} {env e1 : En}
/-- the own thing at slot i changed, behind what was done before: what it takes in may be new since then -/
theorem chg_all (r1 : Rep κ H1 G1 σ e1) (f1 : Fr H G σ0 env H1 G1 σ e1) {i : Nat} {s s' : Sl} {o o' : O} {F : List Addr} {v : V} (e : e1[i]? = some s) (hm : s.mut = true) (t : s.th = some o) (t' : s'.th = some o') (hf : s'.fix = true → s'.was s) (hm' : s'.mut = true) (ea : σ[i]? = some (some v))
    (h : RO κ H2 G1 v o' F) (hk : ∀ a u, H1 a = some u → a ∉ G1.fp i → H2 a = some u) (hF : ∀ a, a ∈ F → a ∈ G1.fp i ∨ (Fre G1 e1 a ∧ Nw H G env a)) :
    ∃ G', Rep κ H2 G' σ (e1.set i s') ∧ Fr H G σ0 env H2 G' σ (e1.set i s') := by
  have hi : i < e1.length := (List.getElem?_eq_some_iff.mp e).1
  have me : ∀ a, a ∈ G1.fp i → Own G1 e1 i a := fun a m => ⟨s, o, e, t, m⟩
  have sub : Sub κ G1.g H2 := ⟨fun a u q => hk a u (r1.sub a u q) fun m => (by rw [(r1.own (me a m)).2] at q; cases q), r1.sub.n, tabs_of r1.sub.t fun a u q np => hk a u q fun m => np (r1.pl e m q)⟩
  have re := r1.re (s := s') (F := F) (H' := H2) (g' := G1.g) (x := some v) hi sub (Same.refl _) (RSl.of t' rfl h) (fun j u a w e2 m o' h => hk a o' h fun m' => w (r1.inj i j a u (me a m') e2 m)) (fun j a w ow => (r1.own ow).2) fun a m j u w e2 m2 => by
    rcases hF a m with q | q
    · exact w (r1.inj i j a u (me a q) e2 m2)
    · exact q.1 j u e2 m2
  rw [set_same ea] at re
  have mi : ∀ a, a ∈ G1.fp i → ∀ u, H a = some u → Mt G env a := fun a m u h => f1.mm a u h ⟨i, s, e, hm, m⟩
  refine ⟨_, re, fun a u h n => hk_trans (f1.hk a u h n) fun o' e => ⟨o', hk a o' e fun m => n (mi a m u h), fun _ => rfl⟩, f1.gk, f1.gn, fun a u h m => ?_, fun j u q e2 => ?_⟩
  · obtain ⟨j, u', e2, hm2, m⟩ := m
    have m : a ∈ (G1.put i F).fp j := m
    rcases set_look e2 with ⟨rfl, rfl⟩ | ⟨w, e3⟩
    · rw [put_at] at m
      rcases hF a m with q | q
      · exact mi a q u h
      · exact q.2 u h
    · rw [put_ne w] at m
      exact f1.mm a u h ⟨j, u', e3, hm2, m⟩
  · rcases set_look e2 with ⟨rfl, rfl⟩ | ⟨w, e3⟩
    · obtain ⟨s0, q1, q2, q3, q4⟩ := f1.lk j s (was_fix q (hf q)) e
      exact ⟨s0, q1, was_trans q (hf q) q2, q3, fun _ z => by rw [hm'] at z; cases z⟩
    · obtain ⟨s0, q1, q2, q3, q4⟩ := f1.lk j u q e3
      refine ⟨s0, q1, q2, q3, fun y1 y2 => ?_⟩
      show (G1.put i F).fp j = _
      rw [put_ne w]
      exact q4 y1 y2
/-- .. of a field -/
theorem fld_all {f : Str} {tab : Nat → Option Nat} (hf : FldOk κ f tab) (r1 : Rep κ H1 G1 σ e1) (f1 : Fr H G σ0 env H1 G1 σ e1) {i c k : Nat} {fs : List Fd} {y : Fd} {s : Sl} {v : V} {z : Rs} (h : obAt e1 i = some (c, fs)) (es : e1[i]? = some s) (w : tab c = some k) (hk : k ≤ fs.length) (hz : z.fd = some y) (rv : RV κ σ (Nw H G env) H1 G1 e1 v z) :
    ∃ a dx ys, σ[i]? = some (some (.ref a)) ∧ H1 a = some (.ins (κ.cl c) dx ys) ∧ ys.length < 1000 ∧ ∃ G', Rep κ (upd H1 a (.ins (κ.cl c) dx (putF f v ys))) G' σ (e1.set i (setO s (.ob c (setF fs k y)))) ∧ Fr H G σ0 env (upd H1 a (.ins (κ.cl c) dx (putF f v ys))) G' σ (e1.set i (setO s (.ob c (setF fs k y)))) := by
  obtain ⟨s', a, dx, ys, F', es', g, h4, h5, h6, h7, h8, h9, h10⟩ := ob_at r1 h
  rw [es] at es'
  cases es'
  obtain ⟨g1, g2, g3, g4, g5⟩ := hf.ok c k w
  have ln : ys.length = fs.length := by rw [← h9.len, List.length_map]
  have lL : fs.length ≤ (κ.fl c).length := by
    have := congrArg List.length h8
    rw [List.length_map, List.length_take] at this
    omega
  obtain ⟨n1, n2⟩ := putF_names (v := v) h8 lL g4 g3 hk
  have names : (putF f v ys).map Prod.fst = (κ.fl c).take (setF fs k y).length := by
    rw [n1]
    unfold setF
    by_cases hlt : k < fs.length
    · rw [if_pos hlt, if_pos hlt, List.length_set]
    · rw [if_neg hlt, if_neg hlt, List.length_append, List.length_singleton]
  have hk' : ∀ b u, b ≠ a → H1 b = some u → upd H1 a (.ins (κ.cl c) dx (putF f v ys)) b = some u := fun b u nb hu => by rw [upd_ne nb]; exact hu
  have carry : ∀ {vs : List V} {fs : List Fd} {F : List Addr}, a ∉ F → RFs κ H1 G1 vs fs F → RFs κ (upd H1 a (.ins (κ.cl c) dx (putF f v ys))) G1 vs fs F := fun {vs fs F} na t => t.grow (Same.refl _) (fun b u m hu => hk' b u (fun z => na (z ▸ m)) hu) fun b m => (t.own m).2
  have fields : ∃ F2, RFs κ (upd H1 a (.ins (κ.cl c) dx (putF f v ys))) G1 ((putF f v ys).map Prod.snd) (setF fs k y) F2 ∧ a ∉ F2 ∧ ∀ b, b ∈ F2 → b ∈ F' ∨ (Fre G1 e1 b ∧ Nw H G env b) := by
    rw [n2]
    cases z with
    | sh d =>
      cases hz
      unfold setF
      by_cases hlt : k < fs.length
      · rw [if_pos hlt, if_pos hlt]
        obtain ⟨F2, q1, q2⟩ := RFs.setS (κ := κ) (H := H1) (G := G1) (v := v) (d := d) rv k h9
        exact ⟨F2, carry (fun m => h10 (q2 _ m)) q1, fun m => h10 (q2 _ m), fun b m => .inl (q2 b m)⟩
      · rw [if_neg hlt, if_neg hlt]
        exact ⟨F', carry h10 (RFs.addS (κ := κ) (H := H1) (G := G1) (v := v) (d := d) rv h9), h10, fun b m => .inl m⟩
    | ow l =>
      cases hz
      obtain ⟨b, xs, rfl, b2, b3, b4, b5, b6⟩ := rv
      have nb : b ∉ F' := fun m => b5 i s es (by rw [h5]; exact List.mem_cons_of_mem _ m)
      have nba : b ≠ a := fun m => b5 i s es (by rw [h5, m]; exact List.mem_cons_self)
      unfold setF
      by_cases hlt : k < fs.length
      · rw [if_pos hlt, if_pos hlt]
        obtain ⟨F2, q1, q2⟩ := RFs.setL (κ := κ) (H := H1) (G := G1) b2 b3 b4 k nb hlt h9
        have na : a ∉ F2 := fun m => by
          rcases q2 _ m with m | e
          · exact h10 m
          · exact nba e.symm
        exact ⟨F2, carry na q1, na, fun c m => by
          rcases q2 c m with m | e
          · exact .inl m
          · rw [e]; exact .inr ⟨b5, b6⟩⟩
      · rw [if_neg hlt, if_neg hlt]
        obtain ⟨F2, q1, q2⟩ := RFs.addL (κ := κ) (H := H1) (G := G1) b2 b3 b4 nb h9
        have na : a ∉ F2 := fun m => by
          rcases q2 _ m with m | e
          · exact h10 m
          · exact nba e.symm
        exact ⟨F2, carry na q1, na, fun c m => by
          rcases q2 c m with m | e
          · exact .inl m
          · rw [e]; exact .inr ⟨b5, b6⟩⟩
    | tr o => cases hz
  obtain ⟨F2, t1, t2, t3⟩ := fields
  have ro : RO κ (upd H1 a (.ins (κ.cl c) dx (putF f v ys))) G1 (.ref a) (.ob c (setF fs k y)) (a :: F2) := .ob upd_same h7 names t1 t2
  exact ⟨a, dx, ys, h4, h6, by rw [ln]; omega, chg_all r1 f1 (s' := setO s (.ob c (setF fs k y))) es (getO_th g).2 (getO_th g).1 setO_th.1 (setO_was g) setO_th.2 h4 ro (fun b u hu m => hk' b u (fun w => m (by rw [h5, w]; exact List.mem_cons_self)) hu) fun b m => by
    rcases List.mem_cons.mp m with e | m
    · rw [e, h5]; exact .inl List.mem_cons_self
    · rcases t3 b m with m | q
      · rw [h5]; exact .inl (List.mem_cons_of_mem _ m)
      · exact .inr q⟩
end
section
variable {X : Cx} {κ : Kx} {W : WX} {e : Expr} {m : Sm D} {mr : Sm Rs} {f : Str} {pos apos np : Pos} {tab : Nat → Option Nat}
theorem s_fld {i : Nat} {x : Str} (hf : FldOk κ f tab) (hK : X.K = κ.K) (ho : PE X (.Name x np) (tVar i)) (hv : PE X e (tI κ W (RV κ) mr)) (hs : swapsWith e (some (.Attribute (.Name x np) f apos)) pos.line X.env = pure false := by rfl) :
    PS X (.Assign [.Attribute (.Name x np) f apos] e pos) (tS κ W (sFldS i tab mr)) := PS.imp (ps_fld ho hv hs) fun D σ H ⟨G, env, r, q⟩ => by
  refine ⟨G, env, r, ?_⟩
  unfold sFldS sbnd at q
  cases em : mr env with
  | none => rw [em] at q; exact q
  | some o => cases o with
    | ex x e1 =>
      rw [em] at q
      exact fun c d H' G' a b g => q c d σ H' G' a b g
    | ok z e1 =>
      rw [em] at q
      intro v H1 G1 r1 rv f1
      dsimp only at q
      cases h : obAt e1 i with
      | none => rw [h] at q; exact q.elim
      | some cf =>
        obtain ⟨c, fs⟩ := cf
        rw [h] at q
        dsimp only at q
        cases w : tab c with
        | none => rw [w] at q; exact q.elim
        | some k =>
          rw [w] at q
          dsimp only at q
          by_cases hk : k ≤ fs.length
          · rw [if_pos hk] at q
            cases hz : z.fd with
            | none => rw [hz] at q; exact q.elim
            | some y =>
              rw [hz] at q
              dsimp only at q
              cases es : e1[i]? with
              | none => rw [es] at q; exact q.elim
              | some s =>
                rw [es] at q
                obtain ⟨a, dx, ys, h1, h2, h3, G2, r2, f2⟩ := fld_all hf r1 f1 h es w hk hz rv
                obtain ⟨g1, g2, _⟩ := hf.ok c k w
                exact ⟨_, h1, a, _, dx, ys, rfl, h2, by rw [hK]; exact g1, by rw [hK]; exact g2, h3, q σ _ G2 r2 f2⟩
          · rw [if_neg hk] at q; exact q.elim
end
end Vs

set_option Elab.async false
set_option linter.all false
set_option maxRecDepth 100000
set_option maxHeartbeats 2000000
/-! Vs6: methods, makes, calls that change. -/
namespace Vs
open PySem L2 PyProof.Rows
/-! ### rules of the hand layer, with the wish at the slots -/
section
variable {X : Cx} {k : Nat} {fn C : Addr} {fd : FuncData} {ps : List Str} {sp : Sp} {E : L2.St → XK} {x m : Str} {p pos apos : Pos} {e o : Expr} {es : List Expr} {ta : TE} {t : TA}
/-- o.m(..), the class by the instance -/
def tMethV (X : Cx) (m : Str) (E : L2.St → XK) (ta : TE) (t : TA) : TE := fun σ H Q => ta σ H fun x H1 => ∃ (C g : Addr) (fd : FuncData) (ps : List Str) (k : Nat) (sp : Sp) (a dx : Addr) (fs : List (Str × V)), x = .ref a ∧ H1 a = some (.ins C dx fs) ∧ fs.lookup m = none ∧
  L2.Cls X.K C ∧ L2.Meth X.K C m g ∧ FnOk X.prog X.w X.K X.mg X.base (L2.CX X.prog X.w) k g fd ps sp ∧ Room k X.A ∧ Binds X.K fd ps [] ∧ t σ H1 fun vs H2 => sp (x :: vs) H2 Q (E σ)
theorem pe_methV {pl : Sem Bool} (hx : ∀ σ, PassesAt (L2.CX X.prog X.w) X σ (E σ)) (he : PE X o ta) (ha : PA X (e :: es) t)
    (hst : starEach (e :: es) X.env = (false, eval e X.env) :: starEach es X.env := by rfl) (hpl : (backTo pos (starEach es X.env)).any (·.1) = false := by rfl)
    (ht : eval (.Call (.Attribute o m apos) (e :: es) [] pos) X.env = (do
      let ov ← eval o X.env
      standAt apos.atName
      let (f, first) ← holding [ov] (getMethod ov m pl)
      callWith pos f first (backTo pos (starEach (e :: es) X.env)) (backToKw pos (keywordEach [] X.env))) := by rfl) :
    PE X (.Call (.Attribute o m apos) (e :: es) [] pos) (tMethV X m E ta t) := by
  refine ⟨fun pins s σ H Q I h => ?_⟩
  refine PySem.W.methodCall_KW (pl := pl) (thn (he.run pins s σ H _ I h) fun u s1 ⟨x, H1, I1, rx, C, g, fd, ps, k, sp, a, dx, fs, ex, ea, l, c, hm, F, hr, hb, q⟩ => ?_) ht
  subst ex
  obtain rfl : u = Value.ref a := rx
  refine getmeth_ok I1 ea c hm l ?_
  refine PySem.W.callWith_K (first := [.ref a]) (h₀ := X.base) I.ok.mod.kin hm.kp (thn (ha.run pos pins s1 σ H1 _ I1 q) fun us s2 ⟨vs, H2, I2, r, q2⟩ => ⟨I2.kIn, ?_⟩) hst hpl
  exact run_fnS (us := .ref a :: us) (vs := .ref a :: vs) F hr hb (hx σ) I2 (.cons rfl r) q2
theorem pe_methV0 {pl : Sem Bool} (hx : ∀ σ, PassesAt (L2.CX X.prog X.w) X σ (E σ)) (he : PE X o ta)
    (ht : eval (.Call (.Attribute o m apos) [] [] pos) X.env = (do
      let ov ← eval o X.env
      standAt apos.atName
      let (f, first) ← holding [ov] (getMethod ov m pl)
      callWith pos f first (backTo pos (starEach [] X.env)) (backToKw pos (keywordEach [] X.env))) := by rfl) :
    PE X (.Call (.Attribute o m apos) [] [] pos) (tMethV X m E ta tNil) := by
  refine ⟨fun pins s σ H Q I h => ?_⟩
  refine PySem.W.methodCall_KW (pl := pl) (thn (he.run pins s σ H _ I h) fun u s1 ⟨x, H1, I1, rx, C, g, fd, ps, k, sp, a, dx, fs, ex, ea, l, c, hm, F, hr, hb, q⟩ => ?_) ht
  subst ex
  obtain rfl : u = Value.ref a := rx
  refine getmeth_ok I1 ea c hm l ?_
  exact PySem.W.callWith_K0 (first := [.ref a]) I1.kIn hm.kp (run_fnS (us := [.ref a]) (vs := [.ref a]) F hr hb (hx σ) I1 (.cons rfl .nil) q)
/-- C(..) -/
def tMakeS (C : Addr) (sp : Sp) (E : L2.St → XK) (t : TA) : TE := fun σ H Q => t σ H fun vs H1 => ∀ x dx, H1 x = none → H1 dx = none → dx ≠ x →
  sp (.ref x :: vs) (upd (upd H1 dx (.own x)) x (.ins C dx [])) (fun v H2 => v = .non ∧ Q (.ref x) H2) (E σ)
theorem run_makeS {pins : List (Addr × Obj)} {σ : L2.St} {H : Hp} {s : Shared} {Q : VK} {us : List Value} {vs : List V} (M : Mk X.K C fn) (F : FnOk X.prog X.w X.K X.mg X.base (L2.CX X.prog X.w) k fn fd ps sp) (hr : Room (k + 1) X.A) (hb : Binds X.K fd ps [])
    (hx : PassesAt (L2.CX X.prog X.w) X σ (E σ)) (I : Inv X pins σ H s) (r : Vals vs us)
    (h : ∀ x dx, H x = none → H dx = none → dx ≠ x → sp (.ref x :: vs) (upd (upd H dx (.own x)) x (.ins C dx [])) (fun v H2 => v = .non ∧ Q (.ref x) H2) (E σ)) :
    wpAny (model X.prog X.w) X.A (call (.ref C) us) (EP X pins σ Q) X.xe s := by
  have hq := h (s.heap.objs.size + 1) s.heap.objs.size (I.hok.fresh (Nat.le_succ _)) (I.hok.fresh (Nat.le_refl _)) (Nat.ne_of_lt (Nat.lt_succ_self _))
  have I2 := Inv.made (C := C) I
  have r2 : Vals (V.ref (s.heap.objs.size + 1) :: vs) (Value.ref (s.heap.objs.size + 1) :: us) := .cons rfl r
  have hl : (Value.ref (s.heap.objs.size + 1) :: us).length = ps.length := by
    have e := r2.length
    rw [F.len _ _ _ _ hq] at e
    exact e.symm
  have b := hb _ (Value.ref (s.heap.objs.size + 1) :: us) I2.kIn (by rw [List.append_nil]; exact hl)
  rw [List.append_nil] at b
  refine wpAny_call (make_map (f := fn) I.kIn M.makes M.init (beq_iff_eq.mp M.fn) (codeAny_mono (F.run _ X.stack _ _ ⟨Value.ref (s.heap.objs.size + 1) :: us, []⟩ (Value.ref (s.heap.objs.size + 1) :: us) _ _ (E σ) (hr.make C us [])
    (I2.env0.make C us []) b r2 hq) fun r s' hq' => ?_))
  cases r with
  | error e => exact hx pins _ _ e s' I2 hq'
  | ok fl =>
    cases fl with
    | ret u =>
      obtain ⟨v, H', I3, rv, ev, q3⟩ := I2.after hq'
      subst ev
      exact ⟨rv, ⟨V.ref (s.heap.objs.size + 1), H', I3, rfl, q3⟩⟩
    | next => exact False.elim hq'
    | brk => exact False.elim hq'
    | cont => exact False.elim hq'
theorem pe_makeS (M : Mk X.K C fn) (F : FnOk X.prog X.w X.K X.mg X.base (L2.CX X.prog X.w) k fn fd ps sp) (hr : Room (k + 1) X.A) (hg : Gl X x) (hm : X.mg x = some (.ref C)) (hb : Binds X.K fd ps []) (hx : ∀ σ, PassesAt (L2.CX X.prog X.w) X σ (E σ))
    (ha : PA X (e :: es) t) (hdb : (x == ("__debug__" : Str)) = false := by decide) (he : starEach (e :: es) X.env = (false, eval e X.env) :: starEach es X.env := by rfl) (hpl : (backTo pos (starEach es X.env)).any (·.1) = false := by rfl) :
    PE X (.Call (.Name x p) (e :: es) [] pos) (tMakeS C sp E t) := by
  refine ⟨fun pins s σ H Q I h => ?_⟩
  refine wpAny_Call_Name_kw (ld_glob I hg hm ?_ hdb)
  refine PySem.W.callWith_K (h₀ := X.base) I.ok.mod.kin M.kp (thn (ha.run pos pins s σ H _ I h) fun us s1 ⟨vs, H1, I1, r, q⟩ => ⟨I1.kIn, ?_⟩) he hpl
  exact run_makeS M F hr hb (hx σ) I1 r q
theorem pe_makeS0 (M : Mk X.K C fn) (F : FnOk X.prog X.w X.K X.mg X.base (L2.CX X.prog X.w) k fn fd ps sp) (hr : Room (k + 1) X.A) (hg : Gl X x) (hm : X.mg x = some (.ref C)) (hb : Binds X.K fd ps []) (hx : ∀ σ, PassesAt (L2.CX X.prog X.w) X σ (E σ))
    (hdb : (x == ("__debug__" : Str)) = false := by decide) : PE X (.Call (.Name x p) [] [] pos) (tMakeS C sp E tNil) := by
  refine ⟨fun pins s σ H Q I h => ?_⟩
  refine wpAny_Call_Name_kw (ld_glob I hg hm ?_ hdb)
  exact PySem.W.callWith_K0 I.kIn M.kp (run_makeS (us := []) M F hr hb (hx σ) I .nil h)
/-- C.m(..), C a class, m a plain def of it -/
def tClsS (C : Addr) (sp : Sp) (E : L2.St → XK) (ta : TE) (t : TA) : TE := fun σ H Q => ta σ H fun x H1 => x = .ref C ∧ t σ H1 fun vs H2 => sp vs H2 Q (E σ)
theorem pe_clsS {pl : Sem Bool} {mc : Value} (he : PE X o ta) (rd : ClX.CRead X.K C mc) (c : PySem.W.findCls X.K (.ref C) mc m = some (.val (.ref fn))) (hk : PySem.W.keepIn X.K (.ref fn) = true) (F : FnOk X.prog X.w X.K X.mg X.base (L2.CX X.prog X.w) k fn fd ps sp) (hr : Room k X.A) (hb : Binds X.K fd ps []) (hx : ∀ σ, PassesAt (L2.CX X.prog X.w) X σ (E σ)) (ha : PA X (e :: es) t)
    (hst : starEach (e :: es) X.env = (false, eval e X.env) :: starEach es X.env := by rfl) (hpl : (backTo pos (starEach es X.env)).any (·.1) = false := by rfl)
    (ht : eval (.Call (.Attribute o m apos) (e :: es) [] pos) X.env = (do
      let ov ← eval o X.env
      standAt apos.atName
      let (f, first) ← holding [ov] (getMethod ov m pl)
      callWith pos f first (backTo pos (starEach (e :: es) X.env)) (backToKw pos (keywordEach [] X.env))) := by rfl) :
    PE X (.Call (.Attribute o m apos) (e :: es) [] pos) (tClsS C sp E ta t) := by
  refine ⟨fun pins s σ H Q I h => ?_⟩
  refine PySem.W.methodCall_KW (pl := pl) (thn (he.run pins s σ H _ I h) fun u s1 ⟨x, H1, I1, rx, ex, q⟩ => ?_) ht
  subst ex
  obtain rfl : u = Value.ref C := rx
  have kv : ClX.CVal X.K C mc m (.ref fn) (.ref fn) := ⟨c, rfl⟩
  refine PySem.W.method_cls I1.kIn rd.ga (ClX.getcval_ok I1 rd kv fun s2 I2 => ?_)
  refine PySem.W.callWith_K (first := []) (h₀ := X.base) I.ok.mod.kin hk (thn (ha.run pos pins s2 σ H1 _ I2 q) fun us s3 ⟨vs, H2, I3, r, q2⟩ => ⟨I3.kIn, ?_⟩) hst hpl
  exact run_fnS (us := us) (vs := vs) F hr hb (hx σ) I3 r q2
end
/-! ### methods -/
/-- a method of the class with number c that keeps its function -/
structure VMt (P : Program) (w : World) (κ : Kx) (mg : Str → Option Value) (base : Heap) (c : Nat) (m : Str) (k : Nat) (ms : List Bool) (g : FSem) : Prop where
  ex : ∃ (f : Addr) (fd : FuncData) (ps : List Str), L2.Cls κ.K (κ.cl c) ∧ L2.Meth κ.K (κ.cl c) m f ∧ m ∉ κ.fl c ∧ FnOk P w κ.K mg base (L2.CX P w) k f fd ps (spV κ (false :: ms) g) ∧ Binds κ.K fd ps []
def VMs (P : Program) (w : World) (κ : Kx) (mg : Str → Option Value) (base : Heap) (m : Str) (k : Nat) (ms : List Bool) (gs : Nat → Option FSem) : Prop := ∀ c g, gs c = some g → ∃ j, j ≤ k ∧ VMt P w κ mg base c m j ms g
structure VMtI (P : Program) (w : World) (κ : Kx) (mg : Str → Option Value) (base : Heap) (c : Nat) (m : Str) (k : Nat) (ms : List Bool) (g : FSemI) : Prop where
  ex : ∃ (f : Addr) (fd : FuncData) (ps : List Str), L2.Cls κ.K (κ.cl c) ∧ L2.Meth κ.K (κ.cl c) m f ∧ m ∉ κ.fl c ∧ FnOk P w κ.K mg base (L2.CX P w) k f fd ps (spI κ 0 ms g) ∧ Binds κ.K fd ps []
/-- a class that is made -/
structure VMk (P : Program) (w : World) (κ : Kx) (mg : Str → Option Value) (base : Heap) (x : Str) (c : Nat) (k : Nat) (ms : List Bool) (g : FSemI) : Prop where
  ex : ∃ (f : Addr) (fd : FuncData) (ps : List Str), mg x = some (.ref (κ.cl c)) ∧ Mk κ.K (κ.cl c) f ∧ FnOk P w κ.K mg base (L2.CX P w) k f fd ps (spI κ 0 ms g) ∧ Binds κ.K fd ps []
/-- C.__init__(self, ..) -/
structure VCi (P : Program) (w : World) (κ : Kx) (mg : Str → Option Value) (base : Heap) (x : Str) (c : Nat) (m : Str) (k : Nat) (ms : List Bool) (g : FSemI) : Prop where
  ex : ∃ (f : Addr) (fd : FuncData) (ps : List Str) (mc : Value), mg x = some (.ref (κ.cl c)) ∧ ClX.CRead κ.K (κ.cl c) mc ∧ PySem.W.findCls κ.K (.ref (κ.cl c)) mc m = some (.val (.ref f)) ∧ PySem.W.keepIn κ.K (.ref f) = true ∧ FnOk P w κ.K mg base (L2.CX P w) k f fd ps (spI κ 0 ms g) ∧ Binds κ.K fd ps []
def fMeth (gs : Nat → Option FSem) (mo : Sm D) (mr : Sm (List D)) : Sm Rs := bnd mo fun x => match x with
  | .ob c l => match gs c with
    | some g => fCall (fun ds => g (.ob c l :: ds)) mr
    | none => fun _ => none
  | _ => fun _ => none
def fMethI (i c : Nat) (g : FSemI) (m : Sm (List D)) : Sm Rs := fun e => match obAt e i with
  | some (c', _) => if c' = c then fCallI i g m e else none
  | none => none
def fMake (c : Nat) (g : FSemI) (m : Sm (List D)) : Sm Rs := bnd m fun ds e => match g (.ob c []) ds with
  | some (.rt (.sh .non) o) => some (.ok (.tr o) e)
  | some (.ex x _) => some (.ex x e)
  | _ => none
section
variable {X : Cx} {κ : Kx} {W : WX} {e o : Expr} {es : List Expr} {ms : List Bool} {g : FSem} {gI : FSemI} {gs : Nat → Option FSem} {mo : Sm D} {mr : Sm (List D)} {k : Nat} {x m : Str} {p pos apos np : Pos} {c : Nat}
theorem meth_tr {t : TA} (F : VMs X.prog X.w κ X.mg X.base m k ms gs) (hK : X.K = κ.K) (hr : Room k X.A) (ht : ∀ σ H P, tX κ W (RA κ ms) mr σ H P → t σ H P) {σ : L2.St} {H : Hp} {Q : VK} (h : tX κ W (RV κ) (fMeth gs mo mr) σ H Q) : tMethV X m (fun σ => WE W σ) (tX κ W (RP κ) mo) t σ H Q := by
  obtain ⟨G, env, r, q⟩ := h
  refine bind_post r q fun d e1 v H1 G1 _ r1 rv s1 f1 q1 => ?_
  cases d with
  | ob c l =>
    dsimp only at q1
    cases hg : gs c with
    | none => rw [hg] at q1; exact q1.elim
    | some g0 =>
      rw [hg] at q1
      obtain ⟨j, hj, M⟩ := F c g0 hg
      obtain ⟨f, fd, ps, h1, h2, h3, h4, h5⟩ := M.ex
      rw [← hK] at h1 h2 h4 h5
      cases rv with
      | ob g1 g2 g3 =>
        rename_i a dx fs
        refine ⟨_, f, fd, ps, j, _, a, dx, fs, rfl, r1.sub _ _ g1, lookup_out g2 h3, h1, h2, h4, hr.mono hj, h5, ht _ _ _ ?_⟩
        exact bind_post r1 q1 fun ds e2 vs H2 G2 _ r2 rs s2 f2 q2 => call_post (ms := false :: ms) (ds := .ob c l :: ds) r2 (.sh ((Rp.ob g1 g2 g3).mono f2.gk) rs) q2
  | _ => exact q1.elim
theorem v_meth {pl : Sem Bool} (F : VMs X.prog X.w κ X.mg X.base m k ms gs) (hK : X.K = κ.K) (hr : Room k X.A) (tk : Takes X W) (ho : PE X o (tX κ W (RP κ) mo)) (ha : PA X (e :: es) (tX κ W (RA κ ms) mr))
    (hst : starEach (e :: es) X.env = (false, eval e X.env) :: starEach es X.env := by rfl) (hpl : (backTo pos (starEach es X.env)).any (·.1) = false := by rfl)
    (ht : eval (.Call (.Attribute o m apos) (e :: es) [] pos) X.env = (do
      let ov ← eval o X.env
      standAt apos.atName
      let (f, first) ← holding [ov] (getMethod ov m pl)
      callWith pos f first (backTo pos (starEach (e :: es) X.env)) (backToKw pos (keywordEach [] X.env))) := by rfl) :
    PE X (.Call (.Attribute o m apos) (e :: es) [] pos) (tX κ W (RV κ) (fMeth gs mo mr)) :=
  PE.imp (pe_methV (fun σ => passAt tk σ) ho ha hst hpl ht) fun σ H Q h => meth_tr F hK hr (fun _ _ _ h => h) h
theorem v_meth0 {pl : Sem Bool} (F : VMs X.prog X.w κ X.mg X.base m k [] gs) (hK : X.K = κ.K) (hr : Room k X.A) (tk : Takes X W) (ho : PE X o (tX κ W (RP κ) mo))
    (ht : eval (.Call (.Attribute o m apos) [] [] pos) X.env = (do
      let ov ← eval o X.env
      standAt apos.atName
      let (f, first) ← holding [ov] (getMethod ov m pl)
      callWith pos f first (backTo pos (starEach [] X.env)) (backToKw pos (keywordEach [] X.env))) := by rfl) :
    PE X (.Call (.Attribute o m apos) [] [] pos) (tX κ W (RV κ) (fMeth gs mo aNil)) :=
  PE.imp (pe_methV0 (fun σ => passAt tk σ) ho ht) fun σ H Q h => meth_tr F hK hr (fun σ H P ⟨G, env, r, q⟩ => q [] H G r .nil (Grw.refl _) Fr.refl) h
theorem RBs.rpx {H G : Hp} {F : List Addr} {ms : List Bool} {vs : List V} {ds : List D} (h : allSh ms = true) (r : RBs κ H G ms vs ds) : RBx κ H G F ms vs ds := (RBs.all h r).x (r.len.1.symm)
/-- the receiver is an own object, args all given away -/
theorem methI_tr {t : TA} {i : Nat} (F : VMtI X.prog X.w κ X.mg X.base c m k ms gI) (hs : allSh ms = true) (hK : X.K = κ.K) (hr : Room k X.A) (ht : ∀ σ H P, tX κ W (RA κ ms) mr σ H P → t σ H P) {σ : L2.St} {H : Hp} {Q : VK} (h : tI κ W (RV κ) (fMethI i c gI mr) σ H Q) : tMethV X m (fun σ => WE W σ) (tVar i) t σ H Q := by
  obtain ⟨G, env, r, q⟩ := h
  obtain ⟨f, fd, ps, h1, h2, h3, h4, h5⟩ := F.ex
  rw [← hK] at h1 h2 h4 h5
  unfold fMethI at q
  cases ho : obAt env i with
  | none => rw [ho] at q; exact q.elim
  | some cf =>
    obtain ⟨c', fs⟩ := cf
    rw [ho] at q
    dsimp only at q
    by_cases hc : c' = c
    · subst hc
      rw [if_pos rfl] at q
      obtain ⟨s, a, dx, ys, F', es, g, e4, e5, e6, e7, e8, e9, e10⟩ := ob_at r ho
      refine ⟨_, e4, _, f, fd, ps, k, _, a, dx, ys, rfl, e6, lookup_out e8 h3, h1, h2, h4, hr, h5, ht _ _ _ (bind_postI r q fun ds e2 vs H2 G2 _ r2 rs f2 q2 => ?_).pu⟩
      cases z : e2[i]? with
      | none => rw [z] at q2; exact q2.elim
      | some s2 =>
        rw [z] at q2
        dsimp only at q2
        cases z2 : getO s2 with
        | none => rw [z2] at q2; exact q2.elim
        | some o2 =>
          rw [z2] at q2
          exact callI_post (q0 := 0) r2 z z2 e4 (Nat.zero_le _) (RBs.rpx hs rs) q2
    · rw [if_neg hc] at q; exact q.elim
theorem i_methI {pl : Sem Bool} {i : Nat} (F : VMtI X.prog X.w κ X.mg X.base c m k ms gI) (hs : allSh ms = true) (hK : X.K = κ.K) (hr : Room k X.A) (tk : Takes X W) (ho : PE X (.Name x np) (tVar i)) (ha : PA X (e :: es) (tX κ W (RA κ ms) mr))
    (hst : starEach (e :: es) X.env = (false, eval e X.env) :: starEach es X.env := by rfl) (hpl : (backTo pos (starEach es X.env)).any (·.1) = false := by rfl)
    (ht : eval (.Call (.Attribute (.Name x np) m apos) (e :: es) [] pos) X.env = (do
      let ov ← eval (.Name x np) X.env
      standAt apos.atName
      let (f, first) ← holding [ov] (getMethod ov m pl)
      callWith pos f first (backTo pos (starEach (e :: es) X.env)) (backToKw pos (keywordEach [] X.env))) := by rfl) :
    PE X (.Call (.Attribute (.Name x np) m apos) (e :: es) [] pos) (tI κ W (RV κ) (fMethI i c gI mr)) :=
  PE.imp (pe_methV (fun σ => passAt tk σ) ho ha hst hpl ht) fun σ H Q h => methI_tr F hs hK hr (fun _ _ _ h => h) h
theorem i_methI0 {pl : Sem Bool} {i : Nat} (F : VMtI X.prog X.w κ X.mg X.base c m k [] gI) (hK : X.K = κ.K) (hr : Room k X.A) (tk : Takes X W) (ho : PE X (.Name x np) (tVar i))
    (ht : eval (.Call (.Attribute (.Name x np) m apos) [] [] pos) X.env = (do
      let ov ← eval (.Name x np) X.env
      standAt apos.atName
      let (f, first) ← holding [ov] (getMethod ov m pl)
      callWith pos f first (backTo pos (starEach [] X.env)) (backToKw pos (keywordEach [] X.env))) := by rfl) :
    PE X (.Call (.Attribute (.Name x np) m apos) [] [] pos) (tI κ W (RV κ) (fMethI i c gI aNil)) :=
  PE.imp (pe_methV0 (fun σ => passAt tk σ) ho ht) fun σ H Q h => methI_tr F rfl hK hr (fun σ H P ⟨G, env, r, q⟩ => q [] H G r .nil (Grw.refl _) Fr.refl) h
/-- C(..) -/
theorem make_tr {t : TA} (F : VMk X.prog X.w κ X.mg X.base x c k ms gI) (ht : ∀ σ H P, tX κ W (RA κ ms) mr σ H P → t σ H P) {σ : L2.St} {H : Hp} {Q : VK} (h : tX κ W (RV κ) (fMake c gI mr) σ H Q) : tMakeS (κ.cl c) (spI κ 0 ms gI) (fun σ => WE W σ) t σ H Q := by
  obtain ⟨G, env, r, q⟩ := h
  refine ht _ _ _ (bind_post r q fun ds e1 vs H1 G1 _ r1 rv s1 f1 q1 => ?_)
  intro a dx ha hdx ne
  have hb : Same H1 (upd (upd H1 dx (.own a)) a (.ins (κ.cl c) dx [])) := fun b u e => by
    rw [upd_ne (ne_of_none e ha), upd_ne (ne_of_none e hdx)]
    exact e
  have nn : ∀ b, b = a ∨ upd (upd H1 dx (.own a)) a (.ins (κ.cl c) dx []) b = none → H1 b = none := fun b h => by
    rcases h with rfl | h
    · exact ha
    · cases w : H1 b with
      | none => rfl
      | some u => rw [hb b u w] at h; cases h
  have ga : G1.g a = none := r1.sub.none ha
  refine ⟨G1.g, .ref a, vs, ds, .ob c [], [a], rfl, Nat.zero_le _, r1.sub.kept hb, .ob upd_same ga rfl .nil (fun m => by cases m), (rv.x fun b m => by rw [List.mem_singleton.mp m]; exact ha).mono (gr hb) (Same.refl _), ?_⟩
  have fin : ∀ {H' G' : Hp}, Chg κ (upd (upd H1 dx (.own a)) a (.ins (κ.cl c) dx [])) G1 [a] H' G' → Rep κ H' ⟨G', G1.fp⟩ σ e1 ∧ Grw H1 H' ∧ Fr H1 G1 σ e1 H' ⟨G', G1.fp⟩ σ e1 := fun {H' G'} ch => by
    have sm : Grw H1 H' := fun b u e => ch.hk b u (hb b u e) fun m => by rw [List.mem_singleton.mp m, ha] at e; cases e
    have gn : ∀ b u, H1 b = some u → G1.g b = none → G' b = none := fun b u e g => ch.gn b u (hb b u e) g fun m => by rw [List.mem_singleton.mp m, ha] at e; cases e
    exact ⟨r1.grow (G' := ⟨G', G1.fp⟩) sm ch.gk ch.sub (fun _ => rfl) fun i b o => by
      obtain ⟨⟨u, h⟩, g0⟩ := r1.own o
      exact gn b u h g0, sm, Fr.same sm ch.gk (fun b u h g0 _ => gn b u h g0) (fun _ _ _ h => h) fun _ _ _ h => ⟨h, rfl⟩⟩
  cases z : gI (.ob c []) ds with
  | none => rw [z] at q1; exact q1.elim
  | some w => cases w with
    | rt y o' =>
      cases y with
      | sh d =>
        cases d with
        | non =>
          rw [z] at q1
          intro v H' G' F' ch ro hF rf
          obtain ⟨rp, sm, fr⟩ := fin ch
          refine ⟨by cases rf; rfl, q1 (.ref a) H' ⟨G', G1.fp⟩ rp ⟨F', ro, fun b m => ?_⟩ sm fr⟩
          have hb0 := nn b (by rcases hF b m with h | h
                               · exact .inl (List.mem_singleton.mp h)
                               · exact .inr h)
          exact ⟨r1.fre hb0, fun u e => by rw [hb0] at e; cases e⟩
        | _ => rw [z] at q1; exact q1.elim
      | _ => rw [z] at q1; exact q1.elim
    | ex y o' =>
      rw [z] at q1
      intro cc d H' G' F' ch ro hF xr
      obtain ⟨rp, sm, fr⟩ := fin ch
      exact q1 cc d H' ⟨G', G1.fp⟩ rp xr sm fr
theorem v_make (F : VMk X.prog X.w κ X.mg X.base x c k ms gI) (hK : X.K = κ.K) (hr : Room (k + 1) X.A) (tk : Takes X W) (hg : Gl X x) (ha : PA X (e :: es) (tX κ W (RA κ ms) mr)) (hdb : (x == ("__debug__" : Str)) = false := by decide)
    (he : starEach (e :: es) X.env = (false, eval e X.env) :: starEach es X.env := by rfl) (hpl : (backTo pos (starEach es X.env)).any (·.1) = false := by rfl) : PE X (.Call (.Name x p) (e :: es) [] pos) (tX κ W (RV κ) (fMake c gI mr)) := by
  obtain ⟨f, fd, ps, hm, M, F1, hb⟩ := F.ex
  rw [← hK] at M F1 hb
  exact PE.imp (pe_makeS M F1 hr hg hm hb (fun σ => passAt tk σ) ha hdb he hpl) fun σ H Q h => make_tr F (fun _ _ _ h => h) h
theorem v_make0 (F : VMk X.prog X.w κ X.mg X.base x c k [] gI) (hK : X.K = κ.K) (hr : Room (k + 1) X.A) (tk : Takes X W) (hg : Gl X x) (hdb : (x == ("__debug__" : Str)) = false := by decide) : PE X (.Call (.Name x p) [] [] pos) (tX κ W (RV κ) (fMake c gI aNil)) := by
  obtain ⟨f, fd, ps, hm, M, F1, hb⟩ := F.ex
  rw [← hK] at M F1 hb
  exact PE.imp (pe_makeS0 M F1 hr hg hm hb (fun σ => passAt tk σ) hdb) fun σ H Q h => make_tr F (fun σ H P ⟨G, env, r, q⟩ => q [] H G r .nil (Grw.refl _) Fr.refl) h
/-! ### arguments with a thing to be changed -/
def RAI (κ : Kx) (i q0 : Nat) (ms : List Bool) : Rl (List D) (List V) := fun σ _ H G _ vs ds => ∃ v us, vs = insA q0 v us ∧ σ[i]? = some (some v) ∧ RBs κ H G ms us ds ∧ q0 ≤ ms.length
instance {i q0 : Nat} : RlMono (RAI κ i q0 ms) := ⟨fun _ q => q⟩
def aHere (i : Nat) (m : Sm (List D)) : Sm (List D) := fun e => match e[i]? with
  | some s => match getO s with
    | some _ => m e
    | none => none
  | none => none
theorem ai_here {i : Nat} (hx : PE X (.Name x np) (tVar i)) (hr : PA X es (tX κ W (RA κ ms) mr)) (hs : starEach (.Name x np :: es) X.env = (false, eval (.Name x np) X.env) :: starEach es X.env := by rfl) : PA X (.Name x np :: es) (tX κ W (RAI κ i 0 ms) (aHere i mr)) :=
  PA.imp (pa_cons hx hr hs) fun σ H Q ⟨G, env, r, q⟩ => by
    unfold aHere at q
    cases w : env[i]? with
    | none => rw [w] at q; exact q.elim
    | some s =>
      rw [w] at q
      dsimp only at q
      cases z : getO s with
      | none => rw [z] at q; exact q.elim
      | some o =>
        rw [z] at q
        obtain ⟨v, h1, h2⟩ := (r.slot i s w).th (getO_th z).1
        refine ⟨v, h1, G, env, r, ?_⟩
        dsimp only at q
        cases y : mr env with
        | none => rw [y] at q; exact q
        | some oo => cases oo with
          | ex x e1 => rw [y] at q; exact q
          | ok ds e1 =>
            rw [y] at q
            exact fun us H1 G1 r1 rs s1 f1 => q (v :: us) H1 G1 r1 ⟨v, us, rfl, h1, rs, Nat.zero_le _⟩ s1 f1
theorem ai_sh {a : Expr} {ma : Sm D} {i q0 : Nat} (ha : PE X a (tX κ W (RP κ) ma)) (hr : PA X es (tX κ W (RAI κ i q0 ms) mr)) (hs : starEach (a :: es) X.env = (false, eval a X.env) :: starEach es X.env := by rfl) : PA X (a :: es) (tX κ W (RAI κ i (q0 + 1) (false :: ms)) (aCons ma mr)) :=
  PA.imp (pa_cons ha hr hs) fun σ H Q ⟨G, env, r, q⟩ => by
    refine bind_post r q fun d e1 x H1 G1 _ r1 rx s1 f1 q1 => ?_
    refine bind_post r1 q1 fun ds e2 vs H2 G2 _ r2 rs s2 f2 q2 => ?_
    obtain ⟨v, us, e, h1, h2, h3⟩ := rs
    subst e
    exact q2 (x :: insA q0 v us) H2 G2 r2 ⟨v, x :: us, rfl, h1, .sh (Rp.mono f2.gk rx) h2, by simpa using h3⟩ (Grw.refl _) Fr.refl
theorem callI_tr {t : TA} {i q0 : Nat} {sp : Sp} (hsp : sp = spI κ q0 ms gI) (hs : allSh ms = true) (ht : ∀ σ H P, tX κ W (RAI κ i q0 ms) mr σ H P → t σ H P) {σ : L2.St} {H : Hp} {Q : VK} (h : tI κ W (RV κ) (fCallI i gI mr) σ H Q) : t σ H fun vs H1 => sp vs H1 Q (WE W σ) := by
  subst hsp
  obtain ⟨G, env, r, q⟩ := h
  refine ht _ _ _ (bind_postI r q fun ds e2 vs H2 G2 _ r2 rs f2 q2 => ?_).pu
  obtain ⟨v, us, e, h1, h2, h3⟩ := rs
  subst e
  cases z : e2[i]? with
  | none => rw [z] at q2; exact q2.elim
  | some s2 =>
    rw [z] at q2
    dsimp only at q2
    cases z2 : getO s2 with
    | none => rw [z2] at q2; exact q2.elim
    | some o2 =>
      rw [z2] at q2
      exact callI_post (q0 := q0) r2 z z2 h1 h3 (RBs.rpx hs h2) q2
theorem i_callI {i q0 : Nat} (F : VFnI X.prog X.w κ X.mg X.base x k q0 ms gI) (hs : allSh ms = true) (hK : X.K = κ.K) (hr : Room k X.A) (tk : Takes X W) (hg : Gl X x) (ha : PA X (e :: es) (tX κ W (RAI κ i q0 ms) mr)) (hdb : (x == ("__debug__" : Str)) = false := by decide)
    (he : starEach (e :: es) X.env = (false, eval e X.env) :: starEach es X.env := by rfl) (hpl : (backTo pos (starEach es X.env)).any (·.1) = false := by rfl) : PE X (.Call (.Name x p) (e :: es) [] pos) (tI κ W (RV κ) (fCallI i gI mr)) := by
  obtain ⟨f, fd, ps, hm, hk, F1, hb⟩ := F.ex
  rw [← hK] at hk F1 hb
  exact PE.imp (pe_callS F1 hr hg hm hk hb (fun σ => passAt tk σ) ha hdb he hpl) fun σ H Q h => callI_tr rfl hs (fun _ _ _ h => h) h
/-- C.__init__(self, ..) -/
theorem i_init {pl : Sem Bool} {i : Nat} (F : VCi X.prog X.w κ X.mg X.base x c m k ms gI) (hs : allSh ms = true) (hK : X.K = κ.K) (hr : Room k X.A) (tk : Takes X W) (hg : Gl X x) (ha : PA X (e :: es) (tX κ W (RAI κ i 0 ms) mr)) (hdb : (x == ("__debug__" : Str)) = false := by decide)
    (hst : starEach (e :: es) X.env = (false, eval e X.env) :: starEach es X.env := by rfl) (hpl : (backTo pos (starEach es X.env)).any (·.1) = false := by rfl)
    (ht : eval (.Call (.Attribute (.Name x np) m apos) (e :: es) [] pos) X.env = (do
      let ov ← eval (.Name x np) X.env
      standAt apos.atName
      let (f, first) ← holding [ov] (getMethod ov m pl)
      callWith pos f first (backTo pos (starEach (e :: es) X.env)) (backToKw pos (keywordEach [] X.env))) := by rfl) :
    PE X (.Call (.Attribute (.Name x np) m apos) (e :: es) [] pos) (tI κ W (RV κ) (fCallI i gI mr)) := by
  obtain ⟨f, fd, ps, mc, hm, h1, h2, h3, F1, hb⟩ := F.ex
  rw [← hK] at h1 h2 h3 F1 hb
  exact PE.imp (pe_clsS (pe_glob (v := .ref (κ.cl c)) hg hm rfl hdb) h1 h2 h3 F1 hr hb (fun σ => passAt tk σ) ha hst hpl ht) fun σ H Q h => ⟨rfl, callI_tr rfl hs (fun _ _ _ h => h) h⟩
/-! ### values that change, put together -/
theorem i_op {op : Operator} {r : R2} {f : D → D → Option Rs} {a b : Expr} {ma mb : Sm D} (ho : OpR X (binaryOp op) r) (hs : OpV κ r f) (ha : PE X a (tI κ W (RP κ) ma)) (hb : PE X b (tI κ W (RP κ) mb)) : PE X (.BinOp a op b pos) (tI κ W (RV κ) (fOp f ma mb)) :=
  PE.imp (pe_op ho ha hb) fun σ H Q ⟨G, env, r0, q⟩ => by
    refine bind_postI r0 q fun dx e1 x H1 G1 _ rp1 rx f1 q1 => ?_
    refine bind_postI rp1 q1 fun dy e2 y H2 G2 _ rp2 ry f2 q2 => ?_
    cases z : f dx dy with
    | none => rw [z] at q2; exact q2.elim
    | some w => rw [z] at q2; exact hs W σ x y dx dy w H2 G2 e2 Q z rp2 (.inl (Rp.mono f2.gk rx)) (.inl ry) q2.pu
theorem it_cmp {op : CmpOp} {r : R2} {f : D → D → Option Bool} {a b : Expr} {ma mb : Sm D} (ho : OpR X (compareOp op) r) (hs : OpB κ r f) (ha : PE X a (tI κ W (RP κ) ma)) (hb : PE X b (tI κ W (RP κ) mb)) (hm : behindInMarks op b = false) : PT X (.Compare a [op] [b] pos) (tI κ W RT (fOp f ma mb)) :=
  PT.imp (pt_cmpR ho ha hb hm) fun σ H Q ⟨G, env, r0, q⟩ => by
    refine bind_postI r0 q fun dx e1 x H1 G1 _ rp1 rx f1 q1 => ?_
    refine bind_postI rp1 q1 fun dy e2 y H2 G2 _ rp2 ry f2 q2 => ?_
    cases z : f dx dy with
    | none => rw [z] at q2; exact q2.elim
    | some w => rw [z] at q2; exact hs x y dx dy w H2 G2 _ z rp2.sub (.inl (Rp.mono f2.gk rx)) (.inl ry) ⟨w, rfl, post_tt rp2 q2.pu⟩
theorem it_not {a : Expr} {mt : Sm Bool} (ha : PT X a (tI κ W RT mt)) : PT X (.UnaryOp .Not a pos) (tI κ W RT (fNot mt)) := PT.imp (pt_not ha) fun σ H Q ⟨G, env, r, q⟩ => bind_postI r q fun d e1 v H1 G1 em r1 rv f1 q1 => by
  cases rv
  exact post_tt r1 q1.pu
theorem it_tru {a : Expr} {ma : Sm D} (hK : X.K = κ.K) (ha : PE X a (tI κ W (RP κ) ma)) (he : ∀ whole, isTrue a X.env whole = (do let v ← whole; standAt a.pos; holding [v] (truthy v)) := by intro _; rfl) : PT X a (tI κ W RT (fTru ma)) :=
  PT.imp (pt_truth ha he) fun σ H Q ⟨G, env, r, q⟩ => bind_postI r q fun d e1 v H1 G1 em r1 rv f1 q1 => by
    cases w : truD d with
    | none => rw [w] at q1; exact q1.elim
    | some b =>
      rw [w] at q1
      exact ⟨b, by rw [hK]; exact tru_of r1.sub (.inl rv) w, post_tt r1 q1.pu⟩
theorem iw_and1 {a : Expr} {mt : Sm Bool} (ha : PT X a (tI κ W RT mt)) : PW X (.BoolOp .And [a] pos) (tI κ W RT mt) := pw_and1 ha
theorem iw_or1 {a : Expr} {mt : Sm Bool} (ha : PT X a (tI κ W RT mt)) : PW X (.BoolOp .Or [a] pos) (tI κ W RT mt) := pw_or1 ha
theorem iw_and {a b : Expr} {rest : List Expr} {mt mu : Sm Bool} (ha : PT X a (tI κ W RT mt)) (hb : PW X (.BoolOp .And (b :: rest) pos) (tI κ W RT mu)) : PW X (.BoolOp .And (a :: b :: rest) pos) (tI κ W RT (fAnd mt mu)) := PW.imp (pw_and ha hb) fun σ H Q ⟨G, env, r, q⟩ => bind_postI r q fun d e1 v H1 G1 em r1 rv f1 q1 => by
  cases rv
  cases d with
  | true => exact ⟨G1, e1, r1, q1⟩
  | false => exact post_tt r1 q1.pu
theorem iw_or {a b : Expr} {rest : List Expr} {mt mu : Sm Bool} (ha : PT X a (tI κ W RT mt)) (hb : PW X (.BoolOp .Or (b :: rest) pos) (tI κ W RT mu)) : PW X (.BoolOp .Or (a :: b :: rest) pos) (tI κ W RT (fOr mt mu)) := PW.imp (pw_or ha hb) fun σ H Q ⟨G, env, r, q⟩ => bind_postI r q fun d e1 v H1 G1 em r1 rv f1 q1 => by
  cases rv
  cases d with
  | false => exact ⟨G1, e1, r1, q1⟩
  | true => exact post_tt r1 q1.pu
theorem ia_nil : PA X [] (tI κ W (RA κ []) aNil) := im_a a_nil
theorem ia_sh {a : Expr} {ma : Sm D} (ha : PE X a (tI κ W (RP κ) ma)) (hr : PA X es (tI κ W (RA κ ms) mr)) (hm : allSh ms = true) (hs : starEach (a :: es) X.env = (false, eval a X.env) :: starEach es X.env := by rfl) : PA X (a :: es) (tI κ W (RA κ (false :: ms)) (aCons ma mr)) :=
  PA.imp (pa_cons ha hr hs) fun σ H Q ⟨G, env, r, q⟩ => by
    refine bind_postI r q fun d e1 x H1 G1 _ r1 rx f1 q1 => ?_
    refine bind_postI r1 q1 fun ds e2 vs H2 G2 _ r2 rs f2 q2 => ?_
    exact q2 (x :: vs) H2 G2 r2 (.sh (Rp.mono f2.gk rx) rs) Fr.refl
theorem RBs.unsh {H G : Hp} : ∀ {ms ms' : List Bool} {vs : List V} {ds : List D}, allSh ms = true → ms'.length = ms.length → RBs κ H G ms vs ds → RBs κ H G ms' vs ds
  | _, [], _, _, _, _, .nil => .nil
  | _, _ :: _, _, _, _, h, .nil => by cases h
  | _, [], _, _, _, h, .sh _ _ => by cases h
  | _, true :: ms', _, _, a, h, .sh r t => .bo (.inl r) (RBs.unsh (by simpa [allSh] using a) (by simpa using h) t)
  | _, false :: ms', _, _, a, h, .sh r t => .sh r (RBs.unsh (by simpa [allSh] using a) (by simpa using h) t)
  | _, _, _, _, a, _, .bo _ _ => by simp [allSh] at a
/-- f(..) with arguments that change something, all given away -/
theorem i_call {ms' : List Bool} (F : VFn X.prog X.w κ X.mg X.base x k ms g) (hK : X.K = κ.K) (hr : Room k X.A) (tk : Takes X W) (hg : Gl X x) (hs : allSh ms' = true) (hn : ms.length = ms'.length) (ha : PA X (e :: es) (tI κ W (RA κ ms') mr)) (hdb : (x == ("__debug__" : Str)) = false := by decide)
    (he : starEach (e :: es) X.env = (false, eval e X.env) :: starEach es X.env := by rfl) (hpl : (backTo pos (starEach es X.env)).any (·.1) = false := by rfl) : PE X (.Call (.Name x p) (e :: es) [] pos) (tI κ W (RV κ) (fCall g mr)) := by
  obtain ⟨f, fd, ps, hm, hk, F1, hb⟩ := F.ex
  rw [← hK] at hk F1 hb
  refine PE.imp (pe_callS F1 hr hg hm hk hb (fun σ => passAt tk σ) ha hdb he hpl) fun σ H Q ⟨G, env, r, q⟩ => ?_
  exact bind_postI r q fun d e1 vs H1 G1 em r1 rv f1 q1 => call_post r1 (RBs.unsh hs hn rv) q1.pu
/-- a text's, a number's built-in with arguments that change something -/
theorem i_callTy {r : List V → Hp → VK → Prop} {f : List D → Option Rs} {T : String} {ms' : List Bool} (hc : CallR X (.type T) r) (hs : ClV κ ms r f) (hsh : allSh ms' = true) (hn : ms.length = ms'.length) (hg : Gl X x) (hm : X.mg x = none) (hv : bootBuiltins x = some (.type T)) (ha : PA X (e :: es) (tI κ W (RA κ ms') mr))
    (hnm : x ≠ "__name__" := by decide) (hdb : (x == ("__debug__" : Str)) = false := by decide) (he : starEach (e :: es) X.env = (false, eval e X.env) :: starEach es X.env := by rfl) (hpl : (backTo pos (starEach es X.env)).any (·.1) = false := by rfl) :
    PE X (.Call (.Name x p) (e :: es) [] pos) (tI κ W (RV κ) (fCl f mr)) := PE.imp (pe_callTy hc hg hm hv ha hnm hdb he hpl) fun σ H Q ⟨G, env, r0, q⟩ =>
  bind_postI r0 q fun ds e1 vs H1 G1 _ r1 rx f1 q1 => by
    cases z : f ds with
    | none => rw [z] at q1; exact q1.elim
    | some w => rw [z] at q1; exact hs W σ vs ds w H1 G1 e1 Q z r1 (RBs.unsh hsh hn rx) q1.pu
/-! ### methods of own lists -/
/-- xs.pop() -/
def fPop0 (i : Nat) : Sm D := fun e => match e[i]? with
  | some s => match getL s with
    | some l => match l[l.length - 1]? with
      | some d => some (.ok d (e.set i (setL s l.dropLast)))
      | none => none
    | none => none
  | none => none
theorem RpA.dl {H G : Hp} {xs : List V} {l : List D} (r : RpA κ G xs l) : RpA κ G xs.dropLast l.dropLast := by
  rw [List.dropLast_eq_take, List.dropLast_eq_take, r.length]
  exact r.take _
theorem i_pop0 {i : Nat} (hK : X.K = κ.K) (hx : PE X (.Name x np) (tVar i)) (hbase : attributeBase (.Name x np) "pop" X.env (eval (.Name x np) X.env) = eval (.Name x np) X.env := by rfl) (hline : (apos.endLine == pos.line) = true := by rfl) :
    PE X (.Call (.Attribute (.Name x np) "pop" apos) [] [] pos) (tI κ W (RP κ) (fPop0 i)) :=
  PE.imp (pe_bm0 PySem.F.plainAttrs_list PySem.F.slot_list_pop PySem.F.type_list_pop mt_pop hx hbase hline) fun σ H Q ⟨G, env, r, q⟩ => by
    unfold fPop0 at q
    cases w : env[i]? with
    | none => rw [w] at q; exact q.elim
    | some s =>
      rw [w] at q
      dsimp only at q
      cases z : getL s with
      | none => rw [z] at q; exact q.elim
      | some l =>
        rw [z] at q
        dsimp only at q
        cases y : l[l.length - 1]? with
        | none => rw [y] at q; exact q.elim
        | some d =>
          rw [y] at q
          obtain ⟨a, xs, h1, h2, h3, h4, h5⟩ := lst_at r w z
          obtain ⟨v, hv, rv⟩ := h3.getD y
          obtain ⟨G2, eg, r2, f2⟩ := r.chg w z h1 (h3.dl (H := H))
          rw [hK]
          exact ⟨_, h1, .inl ⟨rfl, xs, SqL.of h2⟩, a, xs, v, rfl, rfl, h2, by rw [h3.length]; exact hv, q v _ G2 r2 (by show Rp κ G2.g v d; rw [eg]; exact rv) f2⟩
/-- xs.pop(i) -/
def fPop1 (i : Nat) (m : Sm D) : Sm D := fun e0 => match e0[i]? with
  | some s0 => match getL s0 with
    | some _ => bnd m (fun j e => match j with
      | .int z => match e[i]? with
        | some s => match getL s with
          | some l => if -1000000 ≤ z ∧ z ≤ 1000000 then match seqIndex? z l.length with
            | some k => match l[k]? with
              | some d => some (.ok d (e.set i (setL s (l.eraseIdx k))))
              | none => none
            | none => none
            else none
          | none => none
        | none => none
      | _ => none) e0
    | none => none
  | none => none
theorem RpA.erase {G : Hp} : ∀ {xs : List V} {l : List D} (k : Nat), RpA κ G xs l → RpA κ G (xs.eraseIdx k) (l.eraseIdx k)
  | _, _, _, .nil => .nil
  | _, _, 0, .cons _ t => t
  | _, _, k + 1, .cons r t => .cons r (RpA.erase k t)
theorem i_pop1 {i : Nat} {m1 : Sm D} (hK : X.K = κ.K) (hx : PE X (.Name x np) (tVar i)) (he : PE X e (tX κ W (RB κ) m1)) (hbase : attributeBase (.Name x np) "pop" X.env (eval (.Name x np) X.env) = eval (.Name x np) X.env := by rfl)
    (hfew : ((backTo pos (starEach [e] X.env)).all (fun x => !x.1) && (backToKw pos (keywordEach [] X.env)).all (fun x => x.1.isSome)
      && decide (([e] : List Expr).length + ([] : List Keyword).length + (if ([] : List Keyword).isEmpty then 0 else 1) < 30)) = true := by rfl)
    (hline : (apos.endLine == pos.line) = true := by rfl) (hst : starEach [e] X.env = (false, eval e X.env) :: starEach [] X.env := by rfl) (hplain : (backTo pos (starEach [] X.env)).any (·.1) = false := by rfl) :
    PE X (.Call (.Attribute (.Name x np) "pop" apos) [e] [] pos) (tI κ W (RP κ) (fPop1 i m1)) :=
  PE.imp (pe_bm PySem.F.plainAttrs_list PySem.F.slot_list_pop PySem.F.type_list_pop mt_popAt hx (pa_cons he pa_nil hst) hbase hfew hline hst hplain) fun σ H Q ⟨G, env, r, q⟩ => by
    unfold fPop1 at q
    cases w0 : env[i]? with
    | none => rw [w0] at q; exact q.elim
    | some s0 =>
      rw [w0] at q
      dsimp only at q
      cases z0 : getL s0 with
      | none => rw [z0] at q; exact q.elim
      | some l0 =>
        rw [z0] at q
        dsimp only at q
        obtain ⟨a, xs0, h1, h2, _⟩ := lst_at r w0 z0
        rw [hK]
        refine ⟨_, h1, .inl ⟨rfl, xs0, SqL.of h2⟩, (bind_postI r q fun j e1 v H1 G1 _ r1 rv f1 q1 => ?_).pu⟩
        cases j with
        | int z =>
          dsimp only at q1
          cases w : e1[i]? with
          | none => rw [w] at q1; exact q1.elim
          | some s =>
            rw [w] at q1
            dsimp only at q1
            cases zl : getL s with
            | none => rw [zl] at q1; exact q1.elim
            | some l =>
              rw [zl] at q1
              dsimp only at q1
              by_cases hb : -1000000 ≤ z ∧ z ≤ 1000000
              · rw [if_pos hb] at q1
                cases sq : seqIndex? z l.length with
                | none => rw [sq] at q1; exact q1.elim
                | some k =>
                  rw [sq] at q1
                  dsimp only at q1
                  cases y : l[k]? with
                  | none => rw [y] at q1; exact q1.elim
                  | some d =>
                    rw [y] at q1
                    obtain ⟨a', xs, g1, g2, g3, g4, g5⟩ := lst_at r1 w zl
                    rw [h1] at g1
                    cases g1
                    obtain ⟨u, hu, ru⟩ := g3.getD y
                    obtain ⟨G2, eg, r2, f2⟩ := r1.chg w zl h1 (g3.erase k)
                    exact ⟨a, xs, z, k, u, rfl, by rw [RBq.int rv], g2, by omega, by omega, by rw [g3.length]; exact sq, hu, q1 u _ G2 r2 (by show Rp κ G2.g u d; rw [eg]; exact ru) f2⟩
              · rw [if_neg hb] at q1; exact q1.elim
        | _ => exact q1.elim
/-- xs.reverse(), xs.clear() -/
theorem s_m0 {i : Nat} {id : String} {name : Str} {f : List D → List D} {r : V → List V → Hp → VK → Prop} (hK : X.K = κ.K) (slot : Slot "list" name id) (ty : typeOf (.builtin id) = pure (.type "method_descriptor")) (rule : MtR X id r)
    (hr : ∀ (G : Hp) (xs : List V) (l : List D), RpA κ G xs l → ∃ ys, RpA κ G ys (f l) ∧ ∀ (a : Addr) (H : Hp) (Q : VK), H a = some (.lst xs) → Q .non (upd H a (.lst ys)) → r (.ref a) [] H Q) (hx : PE X (.Name x np) (tVar i)) {p2 : Pos}
    (hs : swapsWith (.Call (.Attribute (.Name x np) name apos) [] [] pos) none p2.line X.env = pure false := by rfl) (hbase : attributeBase (.Name x np) name X.env (eval (.Name x np) X.env) = eval (.Name x np) X.env := by rfl) (hline : (apos.endLine == pos.line) = true := by rfl) :
    PS X (.Expr (.Call (.Attribute (.Name x np) name apos) [] [] pos) p2) (tS κ W (chL i fun l => some (f l))) :=
  PS.imp (ps_expr (pe_bm0 PySem.F.plainAttrs_list slot ty rule hx hbase hline) hs) fun D σ H ⟨G, env, r0, q⟩ => by
    obtain ⟨t, l, k, z, hl, hk, q1⟩ := chL_of q
    cases hk
    obtain ⟨a, xs, h1, h2, h3, _⟩ := lst_at r0 z hl
    obtain ⟨ys, h4, h5⟩ := hr _ xs l h3
    obtain ⟨G2, eg, r2, f2⟩ := r0.chg z hl h1 h4
    rw [hK]
    exact ⟨_, h1, .inl ⟨rfl, xs, SqL.of h2⟩, h5 a H _ h2 (q1 σ _ G2 r2 f2)⟩
theorem s_rev {i : Nat} (hK : X.K = κ.K) (hx : PE X (.Name x np) (tVar i)) {p2 : Pos}
    (hs : swapsWith (.Call (.Attribute (.Name x np) "reverse" apos) [] [] pos) none p2.line X.env = pure false := by rfl) (hbase : attributeBase (.Name x np) "reverse" X.env (eval (.Name x np) X.env) = eval (.Name x np) X.env := by rfl) (hline : (apos.endLine == pos.line) = true := by rfl) :
    PS X (.Expr (.Call (.Attribute (.Name x np) "reverse" apos) [] [] pos) p2) (tS κ W (chL i fun l => some l.reverse)) :=
  s_m0 hK PySem.F.slot_list_reverse PySem.F.type_list_reverse mt_reverse (fun G xs l h => ⟨_, h.rev, fun a H Q h q => ⟨a, xs, rfl, rfl, h, q⟩⟩) hx hs hbase hline
theorem s_clr {i : Nat} (hK : X.K = κ.K) (hx : PE X (.Name x np) (tVar i)) {p2 : Pos}
    (hs : swapsWith (.Call (.Attribute (.Name x np) "clear" apos) [] [] pos) none p2.line X.env = pure false := by rfl) (hbase : attributeBase (.Name x np) "clear" X.env (eval (.Name x np) X.env) = eval (.Name x np) X.env := by rfl) (hline : (apos.endLine == pos.line) = true := by rfl) :
    PS X (.Expr (.Call (.Attribute (.Name x np) "clear" apos) [] [] pos) p2) (tS κ W (chL i fun _ => some [])) :=
  s_m0 (f := fun _ => []) hK PySem.F.slot_list_clear PySem.F.type_list_clear mt_clear (fun G xs l h => ⟨[], .nil, fun a H Q h q => ⟨a, xs, rfl, rfl, h, q⟩⟩) hx hs hbase hline
/-- xs.insert(i, e) -/
def sIns (i : Nat) (mj m : Sm D) : Ss := sOwn i (sbnd mj fun j => sbnd m fun d => match j with
  | .int z => chL i fun l => if 0 ≤ z ∧ z ≤ 1000000 ∧ l.length < szl then some (l.take z.toNat ++ [d] ++ l.drop z.toNat) else none
  | _ => fun _ => none)
theorem s_ins {i : Nat} {e2 : Expr} {mj m1 : Sm D} (hK : X.K = κ.K) (hx : PE X (.Name x np) (tVar i)) (he : PE X e (tX κ W (RP κ) mj)) (he2 : PE X e2 (tI κ W (RP κ) m1)) {p2 : Pos}
    (hs : swapsWith (.Call (.Attribute (.Name x np) "insert" apos) [e, e2] [] pos) none p2.line X.env = pure false := by rfl) (hbase : attributeBase (.Name x np) "insert" X.env (eval (.Name x np) X.env) = eval (.Name x np) X.env := by rfl)
    (hfew : ((backTo pos (starEach [e, e2] X.env)).all (fun x => !x.1) && (backToKw pos (keywordEach [] X.env)).all (fun x => x.1.isSome)
      && decide (([e, e2] : List Expr).length + ([] : List Keyword).length + (if ([] : List Keyword).isEmpty then 0 else 1) < 30)) = true := by rfl)
    (hline : (apos.endLine == pos.line) = true := by rfl) (hst : starEach [e, e2] X.env = (false, eval e X.env) :: starEach [e2] X.env := by rfl) (hst2 : starEach [e2] X.env = (false, eval e2 X.env) :: starEach [] X.env := by rfl) (hplain : (backTo pos (starEach [e2] X.env)).any (·.1) = false := by rfl) :
    PS X (.Expr (.Call (.Attribute (.Name x np) "insert" apos) [e, e2] [] pos) p2) (tS κ W (sIns i mj m1)) :=
  PS.imp (ps_expr (pe_bm PySem.F.plainAttrs_list PySem.F.slot_list_insert PySem.F.type_list_insert mt_insert hx (pa_cons (im he) (pa_cons he2 pa_nil hst2) hst) hbase hfew hline hst hplain) hs) fun D σ H ⟨G, env, r, q⟩ => by
    obtain ⟨t0, l0, e0, g0, hq⟩ := sOwn_of q
    obtain ⟨a, xs, h1, h2, h3, h4, h5⟩ := lst_at r e0 g0
    rw [hK]
    refine ⟨_, h1, .inl ⟨rfl, xs, SqL.of h2⟩, ?_⟩
    refine sbind_post r hq fun j e1 v H1 G1 _ r1 rv f1 q1 => ?_
    refine sbind_post r1 q1 fun d e2 u H2 G2 _ r2 ru f2 q2 => ?_
    cases j with
    | int z =>
      obtain ⟨t, l, k, zz, hl, hk, q3⟩ := chL_of q2
      by_cases hb : 0 ≤ z ∧ z ≤ 1000000 ∧ l.length < szl
      · rw [if_pos hb] at hk
        cases hk
        obtain ⟨b, ys, g1, g2, g3, _⟩ := lst_at r2 zz hl
        rw [h1] at g1
        cases g1
        obtain ⟨G3, eg, r3, f3⟩ := r2.chg zz hl h1 (((g3.take z.toNat).append (.cons ru .nil)).append (g3.drop z.toNat))
        refine ⟨a, ys, z, u, rfl, by cases rv; rfl, g2, by rw [g3.length]; exact Nat.lt_of_lt_of_le hb.2.2 (szl_le (Nat.le_refl _)), hb.1, by omega, q3 σ _ G3 r3 f3⟩
      · rw [if_neg hb] at hk; cases hk
    | _ => exact q2.elim
end
end Vs

set_option Elab.async false
set_option linter.all false
set_option maxRecDepth 100000
set_option maxHeartbeats 2000000
/-! Vs7: more of the built-ins and of the classes. -/
namespace Vs
open PySem L2 PyProof.Rows
/-! ### isinstance of an own class -/
structure IsoOk (κ : Kx) (cv : Value) (tab : Nat → Option Bool) : Prop where
  ok : ∀ c b, tab c = some b → L2.Cls κ.K (κ.cl c) ∧ PySem.W.findIn κ.K (.ref (κ.cl c)) "__class__" = some (some (.builtin "object.__class__")) ∧ PySem.W.specialIn κ.K (.builtin "object.__class__") "__get__" = some (some (.builtin "getset_descriptor.__get__")) ∧ PySem.W.takesIn κ.K (.builtin "object.__class__") = some true ∧ PySem.W.mroIn κ.K (κ.cl c) (.type "object") = some true ∧ PySem.W.kitOne κ.K (.ref (κ.cl c)) cv = some b
def fIsO (tab : Nat → Option Bool) (m : Sm D) : Sm D := bnd m fun d e => match d with
  | .ob c _ => match tab c with
    | some b => some (.ok (.bl b) e)
    | none => none
  | _ => none
section
variable {X : Cx} {κ : Kx} {W : WX} {o e e2 : Expr} {mo : Sm D} {pos p p2 : Pos}
theorem v_isO {T : Str} {C : Addr} {tab : Nat → Option Bool} (h : IsoOk κ (.ref C) tab) (hK : X.K = κ.K) (hg : Gl X "isinstance") (hm : X.mg "isinstance" = none) (hT : PE X (.Name T p2) (tC (.ref C))) (ho : PE X o (tX κ W (RB κ) mo))
    (hv : bootBuiltins "isinstance" = some (.builtin "isinstance") := by decide +kernel) (hst : starEach [o, .Name T p2] X.env = [(false, eval o X.env), (false, eval (.Name T p2) X.env)] := by rfl) (hst2 : starEach [.Name T p2] X.env = [(false, eval (.Name T p2) X.env)] := by rfl) (hpl : (backTo pos (starEach [.Name T p2] X.env)).any (·.1) = false := by rfl) :
    PE X (.Call (.Name "isinstance" p) [o, .Name T p2] [] pos) (tX κ W (RP κ) (fIsO tab mo)) :=
  PE.imp (pe_callB call_isi hg hm hv (pa_cons ho (pa_cons hT pa_nil (by rw [hst2]; rfl)) (by rw [hst, hst2])) (by decide) (by decide) (by rw [hst, hst2]) hpl) fun σ H Q ⟨G, env, rp, q⟩ => by
    refine bind_post rp q fun d e1 x H1 G1 _ rp1 rx s1 f1 q1 => ?_
    cases d with
    | ob c l =>
      dsimp only at q1
      cases z : tab c with
      | none => rw [z] at q1; exact q1.elim
      | some b =>
        rw [z] at q1
        obtain ⟨h1, h2, h3, h4, h5, h6⟩ := h.ok c b z
        obtain ⟨a, dx, fs, rfl, g1, g2, g3⟩ := RBq.ob rp1.sub rx
        rw [hK]
        exact ⟨.ref a, .ref C, .ref (κ.cl c), .ref C, b, rfl, .own _, .base (.ins g1 h1 h2 h3 h4 h5), h6, q1 _ H1 G1 rp1 (.bl b) (Grw.refl _) Fr.refl⟩
    | _ => exact q1.elim
end
/-! ### a method with a default -/
section
variable {X : Cx} {k : Nat} {m : Str} {pos apos : Pos} {e o : Expr} {es : List Expr} {ta : TE} {t : TA} {E : L2.St → XK}
def tMethVD (X : Cx) (m : Str) (dvs : List V) (E : L2.St → XK) (ta : TE) (t : TA) : TE := fun σ H Q => ta σ H fun x H1 => ∃ (C g : Addr) (fd : FuncData) (ps : List Str) (k : Nat) (sp : Sp) (a dx : Addr) (fs : List (Str × V)) (ds : List Value), x = .ref a ∧ H1 a = some (.ins C dx fs) ∧ fs.lookup m = none ∧
  L2.Cls X.K C ∧ L2.Meth X.K C m g ∧ FnOk X.prog X.w X.K X.mg X.base (L2.CX X.prog X.w) k g fd ps sp ∧ Room k X.A ∧ Binds X.K fd ps ds ∧ Vals dvs ds ∧ t σ H1 fun vs H2 => sp ((x :: vs) ++ dvs) H2 Q (E σ)
theorem pe_methVD {pl : Sem Bool} {dvs : List V} (hx : ∀ σ, PassesAt (L2.CX X.prog X.w) X σ (E σ)) (he : PE X o ta) (ha : PA X (e :: es) t)
    (hst : starEach (e :: es) X.env = (false, eval e X.env) :: starEach es X.env := by rfl) (hpl : (backTo pos (starEach es X.env)).any (·.1) = false := by rfl)
    (ht : eval (.Call (.Attribute o m apos) (e :: es) [] pos) X.env = (do
      let ov ← eval o X.env
      standAt apos.atName
      let (f, first) ← holding [ov] (getMethod ov m pl)
      callWith pos f first (backTo pos (starEach (e :: es) X.env)) (backToKw pos (keywordEach [] X.env))) := by rfl) :
    PE X (.Call (.Attribute o m apos) (e :: es) [] pos) (tMethVD X m dvs E ta t) := by
  refine ⟨fun pins s σ H Q I h => ?_⟩
  refine PySem.W.methodCall_KW (pl := pl) (thn (he.run pins s σ H _ I h) fun u s1 ⟨x, H1, I1, rx, C, g, fd, ps, k, sp, a, dx, fs, ds, ex, ea, l, c, hm, F, hr, hb, hd, q⟩ => ?_) ht
  subst ex
  obtain rfl : u = Value.ref a := rx
  refine getmeth_ok I1 ea c hm l ?_
  refine PySem.W.callWith_K (first := [.ref a]) (h₀ := X.base) I.ok.mod.kin hm.kp (thn (ha.run pos pins s1 σ H1 _ I1 q) fun us s2 ⟨vs, H2, I2, r, q2⟩ => ⟨I2.kIn, ?_⟩) hst hpl
  exact run_fnSD (us := .ref a :: us) (vs := .ref a :: vs) F hr hb hd (hx σ) I2 (.cons rfl r) q2
end
def VMsD (P : Program) (w : World) (κ : Kx) (mg : Str → Option Value) (base : Heap) (m : Str) (k : Nat) (ms : List Bool) (gs : Nat → Option FSem) (dv : Int) : Prop := ∀ c g, gs c = some g → ∃ j, j ≤ k ∧ ∃ (f : Addr) (fd : FuncData) (ps : List Str), L2.Cls κ.K (κ.cl c) ∧ L2.Meth κ.K (κ.cl c) m f ∧ m ∉ κ.fl c ∧ FnOk P w κ.K mg base (L2.CX P w) j f fd ps (spV κ (false :: ms) g) ∧ Binds κ.K fd ps [] ∧ ∃ ds, Vals [V.int dv] ds ∧ Binds κ.K fd ps ds
def fMethD (gs : Nat → Option FSem) (dv : Int) (mo : Sm D) (mr : Sm (List D)) : Sm Rs := fMeth (fun c => match gs c with
  | some g => some fun ds => g (ds ++ [.int dv])
  | none => none) mo mr
section
variable {X : Cx} {κ : Kx} {W : WX} {e o e2 : Expr} {es : List Expr} {ms : List Bool} {mo : Sm D} {mr : Sm (List D)} {k : Nat} {x m : Str} {p p2 pos apos np : Pos} {gs : Nat → Option FSem} {dv : Int} {mm : Bool}
theorem v_methD {pl : Sem Bool} (F : VMsD X.prog X.w κ X.mg X.base m k (ms ++ [mm]) gs dv) (hK : X.K = κ.K) (hr : Room k X.A) (tk : Takes X W) (ho : PE X o (tX κ W (RP κ) mo)) (ha : PA X (e :: es) (tX κ W (RA κ ms) mr))
    (hst : starEach (e :: es) X.env = (false, eval e X.env) :: starEach es X.env := by rfl) (hpl : (backTo pos (starEach es X.env)).any (·.1) = false := by rfl)
    (ht : eval (.Call (.Attribute o m apos) (e :: es) [] pos) X.env = (do
      let ov ← eval o X.env
      standAt apos.atName
      let (f, first) ← holding [ov] (getMethod ov m pl)
      callWith pos f first (backTo pos (starEach (e :: es) X.env)) (backToKw pos (keywordEach [] X.env))) := by rfl) :
    PE X (.Call (.Attribute o m apos) (e :: es) [] pos) (tX κ W (RV κ) (fMethD gs dv mo mr)) :=
  PE.imp (pe_methVD (dvs := [V.int dv]) (fun σ => passAt tk σ) ho ha hst hpl ht) fun σ H Q ⟨G, env, r, q⟩ => by
    refine bind_post r q fun d e1 v H1 G1 _ r1 rv s1 f1 q1 => ?_
    cases d with
    | ob c l =>
      dsimp only at q1
      cases hg : gs c with
      | none => rw [hg] at q1; exact q1.elim
      | some g0 =>
        rw [hg] at q1
        obtain ⟨j, hj, f, fd, ps, h1, h2, h3, h4, _, ds, hv, h5⟩ := F c g0 hg
        rw [← hK] at h1 h2 h4 h5
        cases rv with
        | ob g1 g2 g3 =>
          rename_i a dx fs
          refine ⟨_, f, fd, ps, j, _, a, dx, fs, ds, rfl, r1.sub _ _ g1, lookup_out g2 h3, h1, h2, h4, hr.mono hj, h5, hv, ?_⟩
          exact bind_post r1 q1 fun ds e2 vs H2 G2 _ r2 rs s2 f2 q2 => call_post (ms := false :: (ms ++ [mm])) (vs := (.ref a :: vs) ++ [.int dv]) (ds := (.ob c l :: ds) ++ [.int dv]) r2 (.sh ((Rp.ob g1 g2 g3).mono f2.gk) (RBs.snoc (.int dv) rs)) q2
    | _ => exact q1.elim
/-! ### own lists in an own object -/
/-- self.f.append(e) -/
def chF (i : Nat) (tab : Nat → Option Nat) (f : List D → Option (List D)) (e : En) : Option En := match obAt e i with
  | some (c, fs) => match tab c with
    | some k => match fs[k]? with
      | some (.ow l) => match f l with
        | some l' => match e[i]? with
          | some s => some (e.set i (setO s (.ob c (fs.set k (.ow l')))))
          | none => none
        | none => none
      | _ => none
    | none => none
  | none => none
theorem RFs.chg {H G : Hp} {b : Addr} {xs' : List V} {l' : List D} (hb : H b = some (.lst xs')) (r : RpA κ G xs' l') : ∀ {vs : List V} {fs : List Fd} {F : List Addr} (H0 : Hp) (k : Nat) (l : List D), RFs κ H0 G vs fs F → fs[k]? = some (.ow l) → vs[k]? = some (.ref b) → (∀ a u, a ≠ b → H0 a = some u → H a = some u) → RFs κ H G vs (fs.set k (.ow l')) F
  | _, _, _, H0, k, l, .nil, h, _, _ => by simp at h
  | _, _, _, H0, 0, l, .sh _ _, h, _, _ => by simp at h
  | _, _, _, H0, 0, l, .ow h1 h2 h3 h4 t, h, hv, hk => by
    simp only [List.getElem?_cons_zero, Option.some.injEq, V.ref.injEq] at hv
    subst hv
    exact .ow hb h2 r h4 (t.grow (Same.refl _) (fun a u m h => hk a u (fun z => h4 (z ▸ m)) h) fun a m => (t.own m).2)
  | _, _, _, H0, k + 1, l, .sh q t, h, hv, hk => .sh q (RFs.chg hb r H0 k l t (by simpa using h) (by simpa using hv) hk)
  | _, _, _, H0, k + 1, l, .ow h1 h2 h3 h4 t, h, hv, hk => by
    rename_i a0 xs0 l0 vs0 fs0 F0
    have h' : fs0[k]? = some (.ow l) := by simpa using h
    have hv' : vs0[k]? = some (.ref b) := by simpa using hv
    have ne : a0 ≠ b := fun z => by
      obtain ⟨v, e1, e2⟩ := t.at (k := k) (x := .ow l) h'
      rw [hv'] at e1
      cases e1
      rcases e2 with ⟨d, e, _⟩ | ⟨a, xs, l2, e, e3, _, _, _, m⟩
      · cases e
      · cases e3
        exact h4 (z ▸ m)
    exact .ow (hk _ _ ne h1) h2 h3 h4 (RFs.chg hb r H0 k l t h' hv' hk)
theorem chF_of {i : Nat} {tab : Nat → Option Nat} {f : Str} {g : List D → Option (List D)} (hf : FldOk κ f tab) {σ : L2.St} {H : Hp} {G : Gh} {env e1 : En} (r : Rep κ H G σ env) (h : chF i tab g env = some e1) :
    ∃ b xs l l', eFd i tab env = some (.ow l) ∧ g l = some l' ∧ H b = some (.lst xs) ∧ RpA κ G xs l ∧ (∀ Q : VK, Q (.ref b) H → tFld κ.K (tVar i) f σ H Q) ∧ (∃ a C dx zs, σ[i]? = some (some (.ref a)) ∧ H a = some (.ins C dx zs) ∧ zs.lookup f = some (.ref b)) ∧
      ∀ ys, RpA κ G ys l' → ∃ G', G'.g = G.g ∧ Rep κ (upd H b (.lst ys)) G' σ e1 ∧ Fr H G σ env (upd H b (.lst ys)) G' σ e1 := by
  unfold chF at h
  cases ho : obAt env i with
  | none => rw [ho] at h; cases h
  | some cf =>
    obtain ⟨c, fs⟩ := cf
    rw [ho] at h
    dsimp only at h
    cases w : tab c with
    | none => rw [w] at h; cases h
    | some k =>
      rw [w] at h
      dsimp only at h
      cases y : fs[k]? with
      | none => rw [y] at h; cases h
      | some x =>
        rw [y] at h
        cases x with
        | sh d => cases h
        | ow l =>
          dsimp only at h
          cases z : g l with
          | none => rw [z] at h; cases h
          | some l' =>
            rw [z] at h
            dsimp only at h
            obtain ⟨s, a, dx, zs, F', es, go, h4, h5, h6, h7, h8, h9, h10⟩ := ob_at r ho
            rw [es] at h
            cases h
            obtain ⟨v, hv, rv⟩ := h9.at y
            rcases rv with ⟨d, e, _⟩ | ⟨b, xs, l2, e, e2, e3, e4, e5, e6⟩
            · cases e
            · cases e
              subst e2
              obtain ⟨g1, g2, g3, g4, _⟩ := hf.ok c k w
              refine ⟨b, xs, l, l', by unfold eFd; rw [ho]; dsimp only; rw [w]; exact y, z, e3, e5, fun Q q => ⟨_, h4, a, _, dx, zs, _, rfl, h6, g1, g2, lookup_at h8 g4 g3 hv, q⟩, ⟨a, _, dx, zs, h4, h6, lookup_at h8 g4 g3 hv⟩, fun ys hy => ?_⟩
              have nb : a ≠ b := fun q => h10 (q ▸ e6)
              have fs' := RFs.chg (κ := κ) (G := G) (H := upd H b (.lst ys)) (b := b) upd_same hy H k l h9 y hv (fun a u n hu => by rw [upd_ne n]; exact hu)
              have ro : RO κ (upd H b (.lst ys)) G (.ref a) (.ob c (fs.set k (.ow l'))) (a :: F') := .ob (by rw [upd_ne nb]; exact h6) h7 (by rw [List.length_set]; exact h8) fs' h10
              exact r.chgO (s' := setO s (.ob c (fs.set k (.ow l')))) es (getO_th go).2 (getO_th go).1 setO_th.1 (setO_was go) setO_th.2 h4 ro (fun c' u hu m => by
                have n : c' ≠ b := fun q => m (by rw [h5, q]; exact List.mem_cons_of_mem _ e6)
                rw [upd_ne n]
                exact hu) fun c' m => .inl (by rw [h5]; exact m)
def sAppF (i : Nat) (tab : Nat → Option Nat) (m : Sm D) : Ss := fun e0 => match chF i tab some e0 with
  | some _ => sbnd m (fun d e => match chF i tab (fun l => if l.length < szl then some (l ++ [d]) else none) e with
    | some e1 => some (.nx e1)
    | none => none) e0
  | none => none
def fPopF (i : Nat) (tab : Nat → Option Nat) : Sm D := fun e => match eFd i tab e with
  | some (.ow l) => match l[l.length - 1]? with
    | some d => match chF i tab (fun l => some l.dropLast) e with
      | some e1 => some (.ok d e1)
      | none => none
    | none => none
  | _ => none
theorem i_popF {i : Nat} {tab : Nat → Option Nat} {f : Str} {fpos : Pos} (hf : FldOk κ f tab) (hK : X.K = κ.K) (hx : PE X (.Name x np) (tVar i)) (hb : attributeBase (.Name x np) f X.env (eval (.Name x np) X.env) = eval (.Name x np) X.env := by rfl)
    (hbase : attributeBase (.Attribute (.Name x np) f fpos) "pop" X.env (eval (.Attribute (.Name x np) f fpos) X.env) = eval (.Attribute (.Name x np) f fpos) X.env := by rfl) (hline : (apos.endLine == pos.line) = true := by rfl) :
    PE X (.Call (.Attribute (.Attribute (.Name x np) f fpos) "pop" apos) [] [] pos) (tI κ W (RP κ) (fPopF i tab)) :=
  PE.imp (pe_bm0 PySem.F.plainAttrs_list PySem.F.slot_list_pop PySem.F.type_list_pop mt_pop (pe_fld hx hb) hbase hline) fun σ H Q ⟨G, env, r, q⟩ => by
    unfold fPopF at q
    split at q
    · rename_i l he
      split at q
      · rename_i d hd
        split at q
        · rename_i e1 hc
          obtain ⟨b, xs, l3, l4, g0, g1, g2, g3, g4, _, g5⟩ := chF_of hf r hc
          rw [he] at g0
          cases g0
          cases g1
          obtain ⟨v, hv, rv⟩ := g3.getD hd
          obtain ⟨G2, eg, r2, f2⟩ := g5 xs.dropLast (g3.dl (H := H))
          rw [hK]
          exact g4 _ ⟨.inl ⟨rfl, xs, SqL.of g2⟩, b, xs, v, rfl, rfl, g2, by rw [g3.length]; exact hv, q v _ G2 r2 (by show Rp κ G2.g v d; rw [eg]; exact rv) f2⟩
        · exact q.elim
      · exact q.elim
    · exact q.elim

theorem sbind_postX {α β : Type} {R : Rl α β} {σ : L2.St} {H : Hp} {G : Gh} {env : En} {m : Sm α} {f : α → Ss} {D : Ends} (r : Rep κ H G σ env) (h : SPost κ W σ H G env (sbnd m f env) D)
    {P' : β → Hp → Prop} (k : ∀ a env1 v H1 G1, m env = some (.ok a env1) → Rep κ H1 G1 σ env1 → R σ (Nw H G env) H1 G1 env1 v a → Grw H H1 → Fr H G σ env H1 G1 σ env1 → SPost κ W σ H1 G1 env1 (f a env1) D → P' v H1) :
    tX κ W R m σ H P' := by
  refine ⟨G, env, r, ?_⟩
  unfold sbnd at h
  cases e : m env with
  | none => rw [e] at h; exact h
  | some q => cases q with
    | ok a e1 =>
      rw [e] at h
      exact fun v H1 G1 r1 r2 s2 f2 => k a e1 v H1 G1 e r1 r2 s2 f2 (SPost.shift f2 h)
    | ex x e1 =>
      rw [e] at h
      exact fun c d H' G' a b _ g => h c d σ H' G' a b g
theorem s_appF {i : Nat} {tab : Nat → Option Nat} {f : Str} {fpos cpos : Pos} {m1 : Sm D} (hf : FldOk κ f tab) (hK : X.K = κ.K) (hx : PE X (.Name x np) (tVar i)) (he : PE X e (tX κ W (RP κ) m1)) (hb : attributeBase (.Name x np) f X.env (eval (.Name x np) X.env) = eval (.Name x np) X.env := by rfl)
    (hs : swapsWith (.Call (.Attribute (.Attribute (.Name x np) f fpos) "append" apos) [e] [] cpos) none pos.line X.env = pure false := by rfl)
    (hbase : attributeBase (.Attribute (.Name x np) f fpos) "append" X.env (eval (.Attribute (.Name x np) f fpos) X.env) = eval (.Attribute (.Name x np) f fpos) X.env := by rfl)
    (hfew : ((backTo cpos (starEach [e] X.env)).all (fun x => !x.1) && (backToKw cpos (keywordEach [] X.env)).all (fun x => x.1.isSome)
      && decide (([e] : List Expr).length + ([] : List Keyword).length + (if ([] : List Keyword).isEmpty then 0 else 1) < 30)) = true := by rfl)
    (hline : (apos.endLine == cpos.line) = true := by rfl) (hst : starEach [e] X.env = (false, eval e X.env) :: starEach [] X.env := by rfl) (hplain : (backTo cpos (starEach [] X.env)).any (·.1) = false := by rfl) :
    PS X (.Expr (.Call (.Attribute (.Attribute (.Name x np) f fpos) "append" apos) [e] [] cpos) pos) (tS κ W (sAppF i tab m1)) :=
  PS.imp (ps_expr (pe_bm PySem.F.plainAttrs_list PySem.F.slot_list_append PySem.F.type_list_append mt_append (pe_fld hx hb) (pa_cons he pa_nil hst) hbase hfew hline hst hplain) hs) fun D σ H ⟨G, env, r, q⟩ => by
    unfold sAppF at q
    split at q
    · rename_i e0 hc0
      obtain ⟨b, xs, l0, _, h0, _, h2, h3, h4, ⟨a0, C0, dx0, zs0, k1, k2, k3⟩, _⟩ := chF_of hf r hc0
      rw [hK]
      show tFld κ.K (tVar i) f σ H (fun x H1 => tyV κ.K "list" x H1 ∧ tCons (tX κ W (RP κ) m1) tNil σ H1 fun xs H2 => rAppend x xs H2 fun _ H3 => D.nx σ H3)
      refine h4 _ ⟨.inl ⟨rfl, xs, SqL.of h2⟩, ?_⟩
      refine sbind_postX r q fun d e1 v H1 G1 _ r1 rv s1 f1 q1 => ?_
      split at q1
      · rename_i e2 hc
        obtain ⟨b', ys, l, l', g0, g1, g2, g3, g4, ⟨a1, C1, dx1, zs1, j1, j2, j3⟩, g5⟩ := chF_of hf r1 hc
        rw [k1] at j1
        cases j1
        rw [s1.at k2] at j2
        cases j2
        rw [k3] at j3
        cases j3
        by_cases hsz : l.length < szl
        · rw [if_pos hsz] at g1
          cases g1
          obtain ⟨G2, eg, r2, f2⟩ := g5 (ys ++ [v]) (g3.append (.cons rv .nil))
          exact ⟨b, ys, v, rfl, rfl, g2, by rw [g3.length]; exact szl_lt (Nat.le_of_lt hsz), q1 σ _ G2 r2 f2⟩
        · rw [if_neg hsz] at g1; cases g1
      · exact q1.elim
    · exact q.elim

/-! ### zip -/
def zipL (l k : List D) : List D := List.zipWith (fun a b => .tup [a, b]) l k
def fZip (m n : Sm (List D)) : Sm (List D) := bnd m fun l => bnd n fun k e => some (.ok (zipL l k) e)
theorem i_zip {elts : List Expr} {kk : Nat} {tpos : Pos} {mi mj : Sm (List D)} {a b : Expr} (hK : X.K = κ.K) (hg : Gl X "zip") (hm : X.mg "zip" = none) (ha : PE X a (tX κ W (RL κ) mi)) (hb : PE X b (tX κ W (RL κ) mj)) (hs : starEach [a, b] X.env = (false, eval a X.env) :: starEach [b] X.env := by rfl) (hs2 : starEach [b] X.env = (false, eval b X.env) :: starEach [] X.env := by rfl) (hpl : (backTo pos (starEach [b] X.env)).any (·.1) = false := by rfl) :
    PI X (.Tuple elts kk tpos) (.Call (.Name "zip" p) [a, b] [] pos) (tX κ W (RI κ) (fZip mi mj)) := PI.imp (pi_zip hg hm (pa_cons ha (pa_cons hb pa_nil hs2) hs) hs hpl) fun σ H R ⟨G, env, r, q⟩ => by
  refine bind_post r q fun l e1 v H1 G1 _ r1 rv s1 f1 q1 => bind_post r1 q1 fun k e2 u H2 G2 _ r2 ru s2 f2 q2 => ?_
  obtain ⟨a1, xs, rfl, h1, h2, h3⟩ := rv
  obtain ⟨a2, ys, rfl, g1, g2, g3⟩ := ru
  rw [hK]
  refine ⟨a1, a2, xs, ys, rfl, SqL.of (s2.at h1), SqL.of g1, q2 _ H2 G2 r2 ?_ (Grw.refl _) Fr.refl⟩
  have live : ∀ {c : Addr} {zs : List V} {m : List D}, H1 c = some (.lst zs) → (G1.g c = some (.lst zs) ∨ ¬ Mt G1 e1 c) → (G2.g c = some (.lst zs) ∨ ¬ Mt G2 e2 c) := fun {c zs m} h w => by
    rcases w with w | w
    · exact .inl (f2.gk _ _ w)
    · exact .inr fun m => w (f2.mm c _ h m)
  have h3' := live (m := l) h1 h3
  refine ⟨fun c => (c = a1 ∧ ¬ Mt G2 e2 a1) ∨ (c = a2 ∧ ¬ Mt G2 e2 a2), fun c hc => by rcases hc with ⟨rfl, h⟩ | ⟨rfl, h⟩ <;> exact h, fun H' G' hp sg sh i => ?_⟩
  have l1 : H' a1 = some (.lst xs) := by
    rcases h3' with w | w
    · exact sh _ _ (sg _ _ w)
    · exact hp a1 _ (.inl ⟨rfl, w⟩) (s2.at h1) fun _ z => nomatch z
  have l2 : H' a2 = some (.lst ys) := by
    rcases g3 with w | w
    · exact sh _ _ (sg _ _ w)
    · exact hp a2 _ (.inr ⟨rfl, w⟩) g1 fun _ z => nomatch z
  have e1' := (h2.mono f2.gk).mono sg
  have e2' := g2.mono sg
  refine ⟨fun d hd => ?_, fun hi => ⟨xs, ys, SqL.of l1, SqL.of l2, ?_⟩⟩
  · unfold zipL at hd
    rw [List.getElem?_zipWith] at hd
    cases w1 : l[i]? with
    | none => rw [w1] at hd; cases hd
    | some d1 =>
      cases w2 : k[i]? with
      | none => rw [w1, w2] at hd; cases hd
      | some d2 =>
        rw [w1, w2] at hd
        cases hd
        obtain ⟨x1, hx1, rx1⟩ := e1'.getD w1
        obtain ⟨x2, hx2, rx2⟩ := e2'.getD w2
        refine ⟨⟨xs, ys, x1, x2, SqL.of l1, SqL.of l2, hx1, hx2⟩, fun y H3 ⟨T, y1, y2, ey, hT, e3, hy1, hy2⟩ => .inr ⟨T, [y1, y2], [d1, d2], hT, e3, ey, rfl, ?_⟩⟩
        have q1 := hy1 xs (SqL.of l1)
        have q2 := hy2 ys (SqL.of l2)
        rw [hx1] at q1
        rw [hx2] at q2
        cases q1
        cases q2
        exact .cons rx1 (.cons rx2 .nil)
  · rw [h2.length, g2.length]
    unfold zipL at hi
    rw [List.length_zipWith] at hi
    omega
/-! ### xs.index(e) -/
def ixL (x : D) : List D → Option Nat
  | [] => none
  | y :: l => if y.feq x = true then some 0 else match ixL x l with
    | some j => some (j + 1)
    | none => none
def ixP (x : PyData) : List PyData → Option Nat
  | [] => none
  | y :: l => if PyData.eqv y x = true then some 0 else match ixP x l with
    | some j => some (j + 1)
    | none => none
def fML (f : List D → D → Option Rs) (mo me : Sm D) : Sm Rs := bnd mo fun x => match x with
  | .lst l => bnd me fun y e => match f l y with
    | some z => some (.ok z e)
    | none => none
  | _ => fun _ => none
def opIdx (l : List D) (x : D) : Option Rs := if x.fl = true ∧ l.all D.fl = true then (match ixL x l with
      | some j => some (.sh (.int (j : Int)))
      | none => none)
    else if x.okE = true ∧ (D.lst l).okE = true then (match ixP x.toP (toPA l) with
      | some j => some (.sh (.int (j : Int)))
      | none => none) else none
theorem ixL_at {H G : Hp} {x : D} {v : V} (rx : Rp κ G v x) : ∀ {xs : List V} {l : List D} {j : Nat}, RpA κ G xs l → ixL x l = some j → ∃ z, xs[j]? = some z ∧ eqV z v = true ∧ ∀ (m : Nat) (z' : V), m < j → xs[m]? = some z' → eqV z' v = false
  | _, _, _, .nil, e => by simp [ixL] at e
  | _, _, j, .cons r t, e => by
    unfold ixL at e
    rename_i u us d ds
    by_cases h : d.feq x = true
    · rw [if_pos h] at e
      cases e
      exact ⟨u, rfl, by rw [r.feq rx]; exact h, fun m z' hm => by omega⟩
    · rw [if_neg h] at e
      cases w : ixL x ds with
      | none => rw [w] at e; cases e
      | some k =>
        rw [w] at e
        cases e
        obtain ⟨z, h1, h2, h3⟩ := ixL_at (H := H) rx t w
        refine ⟨z, by simpa using h1, h2, fun m z' hm hz => ?_⟩
        cases m with
        | zero =>
          simp only [List.getElem?_cons_zero, Option.some.injEq] at hz
          rw [← hz, r.feq rx]
          simpa using h
        | succ m => exact h3 m z' (by omega) (by simpa using hz)
theorem ixP_at {x : PyData} : ∀ {l : List PyData} {j : Nat}, ixP x l = some j → ∃ z, l[j]? = some z ∧ PyData.eqv z x = true ∧ ∀ (m : Nat) (z' : PyData), m < j → l[m]? = some z' → PyData.eqv z' x = false
  | [], j, e => by simp [ixP] at e
  | y :: l, j, e => by
    unfold ixP at e
    by_cases h : PyData.eqv y x = true
    · rw [if_pos h] at e
      cases e
      exact ⟨y, rfl, h, fun m z' hm => by omega⟩
    · rw [if_neg h] at e
      cases w : ixP x l with
      | none => rw [w] at e; cases e
      | some k =>
        rw [w] at e
        cases e
        obtain ⟨z, h1, h2, h3⟩ := ixP_at w
        refine ⟨z, by simpa using h1, h2, fun m z' hm hz => ?_⟩
        cases m with
        | zero =>
          simp only [List.getElem?_cons_zero, Option.some.injEq] at hz
          rw [← hz]
          simpa using h
        | succ m => exact h3 m z' (by omega) (by simpa using hz)
def rIdxA (κ : Kx) : V → List V → Hp → VK → Prop := fun x xs H Q => rIndex κ.K x xs H Q ∨ rIndexD κ.K x xs H Q
theorem v_idx {me : Sm D} (hK : X.K = κ.K) (hu : X.A.units + 65 < cLine) (ho : PE X o (tX κ W (RB κ) mo)) (he : PE X e (tX κ W (RB κ) me)) (hbase : attributeBase o "index" X.env (eval o X.env) = eval o X.env := by rfl)
    (hfew : ((backTo pos (starEach [e] X.env)).all (fun x => !x.1) && (backToKw pos (keywordEach [] X.env)).all (fun x => x.1.isSome)
      && decide (([e] : List Expr).length + ([] : List Keyword).length + (if ([] : List Keyword).isEmpty then 0 else 1) < 30)) = true := by rfl)
    (hline : (apos.endLine == pos.line) = true := by rfl) (hst : starEach [e] X.env = (false, eval e X.env) :: starEach [] X.env := by rfl) (hplain : (backTo pos (starEach [] X.env)).any (·.1) = false := by rfl) :
    PE X (.Call (.Attribute o "index" apos) [e] [] pos) (tX κ W (RV κ) (fML opIdx mo me)) :=
  PE.imp (pe_bm PySem.F.plainAttrs_list PySem.F.slot_list_index PySem.F.type_list_index (r := fun x xs H Q => rIndex X.K x xs H Q ∨ rIndexD X.K x xs H Q) (fun pins s σ H x xs u us Q I r rs h => h.elim (mt_index pins s σ H x xs u us Q I r rs) (mt_indexD hu pins s σ H x xs u us Q I r rs)) ho (pa_cons he pa_nil hst) hbase hfew hline hst hplain) fun σ H Q ⟨G, env, r, q⟩ => by
    refine bind_post r q fun dx e1 x H1 G1 _ r1 rx s1 f1 q1 => ?_
    cases dx with
    | lst l =>
      obtain ⟨a0, xs0, rfl, g1, g2⟩ := RBq.lst r1.sub rx
      refine ⟨.inl ⟨rfl, xs0, SqL.of g1⟩, ?_⟩
      refine bind_post r1 q1 fun dy e2 y H2 G2 _ r2 ry s2 f2 q2 => ?_
      have g1' := s2.at g1
      have g2' := g2.mono f2.gk
      unfold opIdx at q2
      rw [hK]
      by_cases h : dy.fl = true ∧ l.all D.fl = true
      · rw [if_pos h] at q2
        cases w : ixL dy l with
        | none => rw [w] at q2; exact q2.elim
        | some j =>
          rw [w] at q2
          have ry' := RBq.rp ry h.1
          obtain ⟨z, z1, z2, z3⟩ := ixL_at (H := H2) ry' g2' w
          exact .inl ⟨a0, xs0, y, j, z, rfl, rfl, SqL.of g1', by rw [ry'.flat]; exact h.1, by rw [g2'.fl]; exact h.2, z1, z2, z3, post_sh r2 (.int _) q2⟩
      · rw [if_neg h] at q2
        by_cases h2 : dy.okE = true ∧ (D.lst l).okE = true
        · rw [if_pos h2] at q2
          cases w : ixP dy.toP (toPA l) with
          | none => rw [w] at q2; exact q2.elim
          | some j =>
            rw [w] at q2
            obtain ⟨z, z1, z2, z3⟩ := ixP_at w
            have hl : Dp κ.K H2 (.ref a0) (D.lst l).toP := RBq.dp r2.sub (.inr ⟨a0, xs0, l, rfl, rfl, g1', g2'⟩) (okE_pl h2.2)
            have hs := okE_shaped h2.2
            simp only [D.toP] at hl hs
            exact .inr ⟨a0, y, dy.toP, _, j, z, rfl, rfl, hl, RBq.dp r2.sub ry (okE_pl h2.1), hs, okE_shaped h2.1, z1, z2, z3, post_sh r2 (.int _) q2⟩
        · rw [if_neg h2] at q2; exact q2.elim
    | _ => exact q1.elim
/-! ### any, all, sorted, max, min -/
def allBls : List D → Option (List Bool)
  | [] => some []
  | .bl b :: r => match allBls r with
    | some l => some (b :: l)
    | none => none
  | _ :: _ => none
theorem allBls_of : ∀ {l : List D} {bs : List Bool}, allBls l = some bs → l = bs.map D.bl
  | [], _, e => by cases e; rfl
  | d :: r, bs, e => by
    cases d <;> try (cases e; done)
    rename_i i
    dsimp only [allBls] at e
    cases h : allBls r with
    | none => rw [h] at e; cases e
    | some l =>
      rw [h] at e
      cases e
      rw [allBls_of h]
      rfl
theorem RpA.ofBls {G : Hp} : ∀ {bs : List Bool} {xs : List V}, RpA κ G xs (bs.map D.bl) → xs = bs.map V.bl
  | [], _, .nil => rfl
  | n :: r, _, .cons (.bl _) t => by rw [RpA.ofBls t]; rfl
def opAny : List D → Option Rs
  | [.lst l] => match allBls l with
    | some bs => some (.sh (.bl (bs.any id)))
    | none => none
  | _ => none
def opAll : List D → Option Rs
  | [.lst l] => match allBls l with
    | some bs => some (.sh (.bl (bs.all id)))
    | none => none
  | _ => none
theorem s_any : ClV κ [true] (rAny κ.K) opAny := fun W σ vs ds z H G env Q e r rx q => by
  match ds, rx with
  | [.lst l], rx =>
    obtain ⟨v, rfl, rv⟩ := rx.one
    dsimp only [opAny] at e
    cases h : allBls l with
    | none => rw [h] at e; cases e
    | some bs =>
      rw [h] at e
      cases e
      rw [allBls_of h] at rv
      obtain ⟨p, xs, rfl, h1, h2⟩ := rv.lst r.sub
      rw [RpA.ofBls h2] at h1
      exact ⟨p, bs, rfl, SqL.of h1, post_sh r (.bl _) q⟩
  | [], rx => cases e
  | x :: y :: t, rx => cases x <;> cases e
theorem s_all : ClV κ [true] (rAll κ.K) opAll := fun W σ vs ds z H G env Q e r rx q => by
  match ds, rx with
  | [.lst l], rx =>
    obtain ⟨v, rfl, rv⟩ := rx.one
    dsimp only [opAll] at e
    cases h : allBls l with
    | none => rw [h] at e; cases e
    | some bs =>
      rw [h] at e
      cases e
      rw [allBls_of h] at rv
      obtain ⟨p, xs, rfl, h1, h2⟩ := rv.lst r.sub
      rw [RpA.ofBls h2] at h1
      exact ⟨p, bs, rfl, SqL.of h1, post_sh r (.bl _) q⟩
  | [], rx => cases e
  | x :: y :: t, rx => cases x <;> cases e
def insI (x : Int) : List Int → List Int
  | [] => [x]
  | y :: l => if x ≤ y then x :: y :: l else y :: insI x l
def srtI : List Int → List Int
  | [] => []
  | x :: l => insI x (srtI l)
theorem insI_perm (x : Int) : ∀ l : List Int, (insI x l).Perm (x :: l)
  | [] => .refl _
  | y :: l => by
    unfold insI
    split
    · exact .refl _
    · exact (List.Perm.cons y (insI_perm x l)).trans (List.Perm.swap x y l)
theorem srtI_perm : ∀ l : List Int, (srtI l).Perm l
  | [] => .refl _
  | x :: l => (insI_perm x (srtI l)).trans (List.Perm.cons x (srtI_perm l))
theorem insI_sorted (x : Int) : ∀ {l : List Int}, l.Pairwise (· ≤ ·) → (insI x l).Pairwise (· ≤ ·)
  | [], _ => by simp [insI]
  | y :: l, h => by
    have h' := List.pairwise_cons.mp h
    unfold insI
    split
    · rename_i hxy
      refine List.pairwise_cons.mpr ⟨fun z hz => ?_, h⟩
      rcases List.mem_cons.mp hz with e | hz
      · rw [e]; exact hxy
      · exact Int.le_trans hxy (h'.1 z hz)
    · rename_i hxy
      refine List.pairwise_cons.mpr ⟨fun z hz => ?_, insI_sorted x h'.2⟩
      rcases List.mem_cons.mp ((insI_perm x l).mem_iff.mp hz) with e | hz
      · rw [e]; omega
      · exact h'.1 z hz
theorem srtI_sorted : ∀ l : List Int, (srtI l).Pairwise (· ≤ ·)
  | [] => .nil
  | x :: l => insI_sorted x (srtI_sorted l)
theorem sorted_unique : ∀ {a b : List Int}, a.Perm b → a.Pairwise (· ≤ ·) → b.Pairwise (· ≤ ·) → a = b
  | [], b, p, _, _ => by rw [List.Perm.nil_eq p]
  | x :: a, [], p, _, _ => by have := p.length_eq; simp at this
  | x :: a, y :: b, p, ha, hb => by
    have ha' := List.pairwise_cons.mp ha
    have hb' := List.pairwise_cons.mp hb
    have e : x = y := by
      have h1 : x ∈ y :: b := p.mem_iff.mp List.mem_cons_self
      have h2 : y ∈ x :: a := p.mem_iff.mpr List.mem_cons_self
      rcases List.mem_cons.mp h1 with e | h1
      · exact e
      · rcases List.mem_cons.mp h2 with e | h2
        · exact e.symm
        · have := ha'.1 y h2
          have := hb'.1 x h1
          omega
    subst e
    rw [sorted_unique (List.Perm.cons_inv p) ha'.2 hb'.2]
def opSorted : List D → Option Rs
  | [.lst l] => match allInts l with
    | some ns => some (.ow ((srtI ns).map D.int))
    | none => none
  | _ => none
theorem s_sorted : ClV κ [true] (L2.rSortedI κ.K) opSorted := fun W σ vs ds z H G env Q e r rx q => by
  match ds, rx with
  | [.lst l], rx =>
    obtain ⟨v, rfl, rv⟩ := rx.one
    dsimp only [opSorted] at e
    cases h : allInts l with
    | none => rw [h] at e; cases e
    | some ns =>
      rw [h] at e
      cases e
      rw [allInts_of h] at rv
      obtain ⟨p, xs, rfl, h1, h2⟩ := rv.lst r.sub
      rw [RpA.ofInts h2] at h1
      refine ⟨p, ns, rfl, SqL.of h1, fun ns' p' hp hs hn => ?_⟩
      rw [sorted_unique (hp.trans (srtI_perm ns).symm) hs (srtI_sorted ns)]
      exact post_ow r hn (RpA.ints _) q
  | [], rx => cases e
  | x :: y :: t, rx => cases x <;> cases e
def maxL : List Int → Option Int
  | [] => none
  | x :: l => some (l.foldl (fun a b => if a < b then b else a) x)
def minL : List Int → Option Int
  | [] => none
  | x :: l => some (l.foldl (fun a b => if b < a then b else a) x)
theorem maxL_foldl : ∀ (l : List Int) (x : Int), (l.foldl (fun a b => if a < b then b else a) x ∈ x :: l) ∧ ∀ y, y ∈ x :: l → y ≤ l.foldl (fun a b => if a < b then b else a) x
  | [], x => ⟨by simp, fun y hy => by simp at hy; simp [hy]⟩
  | z :: l, x => by
    obtain ⟨h1, h2⟩ := maxL_foldl l (if x < z then z else x)
    refine ⟨?_, fun y hy => ?_⟩
    · rw [List.foldl_cons]
      rcases List.mem_cons.mp h1 with h | h
      · rw [h]; split <;> simp
      · exact List.mem_cons_of_mem _ (List.mem_cons_of_mem _ h)
    · rw [List.foldl_cons]
      have h0 := h2 (if x < z then z else x) List.mem_cons_self
      rcases List.mem_cons.mp hy with h | h
      · rw [h]
        split at h0 <;> rename_i hh <;> simp only [hh, if_true, if_false] <;> omega
      · rcases List.mem_cons.mp h with h | h
        · rw [h]
          split at h0 <;> rename_i hh <;> simp only [hh, if_true, if_false] <;> omega
        · exact h2 y (List.mem_cons_of_mem _ h)
theorem minL_foldl : ∀ (l : List Int) (x : Int), (l.foldl (fun a b => if b < a then b else a) x ∈ x :: l) ∧ ∀ y, y ∈ x :: l → l.foldl (fun a b => if b < a then b else a) x ≤ y
  | [], x => ⟨by simp, fun y hy => by simp at hy; simp [hy]⟩
  | z :: l, x => by
    obtain ⟨h1, h2⟩ := minL_foldl l (if z < x then z else x)
    refine ⟨?_, fun y hy => ?_⟩
    · rw [List.foldl_cons]
      rcases List.mem_cons.mp h1 with h | h
      · rw [h]; split <;> simp
      · exact List.mem_cons_of_mem _ (List.mem_cons_of_mem _ h)
    · rw [List.foldl_cons]
      have h0 := h2 (if z < x then z else x) List.mem_cons_self
      rcases List.mem_cons.mp hy with h | h
      · rw [h]
        split at h0 <;> rename_i hh <;> simp only [hh, if_true, if_false] <;> omega
      · rcases List.mem_cons.mp h with h | h
        · rw [h]
          split at h0 <;> rename_i hh <;> simp only [hh, if_true, if_false] <;> omega
        · exact h2 y (List.mem_cons_of_mem _ h)
def opMaxL : List D → Option Rs
  | [.lst l] => match allInts l with
    | some ns => match maxL ns with
      | some m => some (.sh (.int m))
      | none => none
    | none => none
  | _ => none
def opMinL : List D → Option Rs
  | [.lst l] => match allInts l with
    | some ns => match minL ns with
      | some m => some (.sh (.int m))
      | none => none
    | none => none
  | _ => none
theorem s_maxL : ClV κ [true] (rMax κ.K) opMaxL := fun W σ vs ds z H G env Q e r rx q => by
  match ds, rx with
  | [.lst l], rx =>
    obtain ⟨v, rfl, rv⟩ := rx.one
    dsimp only [opMaxL] at e
    cases h : allInts l with
    | none => rw [h] at e; cases e
    | some ns =>
      rw [h] at e
      cases ns with
      | nil => cases e
      | cons x ns =>
        cases e
        rw [allInts_of h] at rv
        obtain ⟨p, xs, rfl, h1, h2⟩ := rv.lst r.sub
        rw [RpA.ofInts h2] at h1
        obtain ⟨m1, m2⟩ := maxL_foldl ns x
        refine ⟨p, x :: ns, rfl, SqL.of h1, by simp, fun m hm1 hm2 => ?_⟩
        have e := m2 m hm1
        have e2 := hm2 _ m1
        rw [show m = ns.foldl (fun a b => if a < b then b else a) x by omega]
        exact post_sh r (.int _) q
  | [], rx => cases e
  | x :: y :: t, rx => cases x <;> cases e
theorem s_minL : ClV κ [true] (rMin κ.K) opMinL := fun W σ vs ds z H G env Q e r rx q => by
  match ds, rx with
  | [.lst l], rx =>
    obtain ⟨v, rfl, rv⟩ := rx.one
    dsimp only [opMinL] at e
    cases h : allInts l with
    | none => rw [h] at e; cases e
    | some ns =>
      rw [h] at e
      cases ns with
      | nil => cases e
      | cons x ns =>
        cases e
        rw [allInts_of h] at rv
        obtain ⟨p, xs, rfl, h1, h2⟩ := rv.lst r.sub
        rw [RpA.ofInts h2] at h1
        obtain ⟨m1, m2⟩ := minL_foldl ns x
        refine ⟨p, x :: ns, rfl, SqL.of h1, by simp, fun m hm1 hm2 => ?_⟩
        have e := m2 m hm1
        have e2 := hm2 _ m1
        rw [show m = ns.foldl (fun a b => if b < a then b else a) x by omega]
        exact post_sh r (.int _) q
  | [], rx => cases e
  | x :: y :: t, rx => cases x <;> cases e
/-! ### more methods of texts -/
def opRfind : List Nat → D → Option Rs
  | a, .str b => some (.sh (.int (Txt.rfind (S a) (S b))))
  | _, _ => none
def opCount : List Nat → D → Option Rs
  | a, .str b => some (.sh (.int (Txt.count (S a) (S b))))
  | _, _ => none
variable {me : Sm D}
theorem v_rfind (ho : PE X o (tX κ W (RB κ) mo)) (he : PE X e (tX κ W (RB κ) me)) (hst : starEach [e] X.env = [(false, eval e X.env)] := by rfl) (hbase : attributeBase o "rfind" X.env (eval o X.env) = eval o X.env := by rfl) (hline : (apos.endLine == pos.line) = true := by rfl) :
    PE X (.Call (.Attribute o "rfind" apos) [e] [] pos) (tX κ W (RV κ) (fM1 opRfind mo me)) := v_m1 PySem.F.slot_str_rfind PySem.F.type_str_rfind mt_rfind (fun W σ w y dy z H G env Q e r ry q => by
  cases dy <;> try (cases e; done)
  cases e
  exact ⟨_, _, rfl, by rw [ry.str], post_sh r (.int _) q⟩) ho he hst hbase hline
theorem v_count (ho : PE X o (tX κ W (RB κ) mo)) (he : PE X e (tX κ W (RB κ) me)) (hst : starEach [e] X.env = [(false, eval e X.env)] := by rfl) (hbase : attributeBase o "count" X.env (eval o X.env) = eval o X.env := by rfl) (hline : (apos.endLine == pos.line) = true := by rfl) :
    PE X (.Call (.Attribute o "count" apos) [e] [] pos) (tX κ W (RV κ) (fM1 opCount mo me)) := v_m1 PySem.F.slot_str_count PySem.F.type_str_count mt_count (fun W σ w y dy z H G env Q e r ry q => by
  cases dy <;> try (cases e; done)
  cases e
  exact ⟨_, _, rfl, by rw [ry.str], post_sh r (.int _) q⟩) ho he hst hbase hline
end
/-! a comprehension inside a comprehension -/
theorem lookup_rel {env : Env} : ∀ {names : List (Str × NameKind)} {x : Str}, names.lookup x = some .cell ∨ names.lookup x = some .free →
    (names.map fun (n, k) => if (k == NameKind.free && env.scope.kind == .function && env.kindOf n == some .cell) then (n, NameKind.cell) else (n, k)).lookup x = some .cell ∨
    (names.map fun (n, k) => if (k == NameKind.free && env.scope.kind == .function && env.kindOf n == some .cell) then (n, NameKind.cell) else (n, k)).lookup x = some .free
  | [], _, h => by simp at h
  | (n, k) :: r, x, h => by
    have ih := @lookup_rel env r x
    show List.lookup x ((if (k == NameKind.free && env.scope.kind == .function && env.kindOf n == some .cell) = true then (n, NameKind.cell) else (n, k)) :: _) = _ ∨ List.lookup x ((if (k == NameKind.free && env.scope.kind == .function && env.kindOf n == some .cell) = true then (n, NameKind.cell) else (n, k)) :: _) = _
    cases hx : x == n with
    | true =>
      simp only [List.lookup_cons, hx] at h
      by_cases hc : (k == NameKind.free && env.scope.kind == .function && env.kindOf n == some .cell) = true
      · rw [if_pos hc]
        left
        simp only [List.lookup_cons, hx]
      · rw [if_neg hc]
        simp only [List.lookup_cons, hx]
        exact h
    | false =>
      simp only [List.lookup_cons, hx] at h
      by_cases hc : (k == NameKind.free && env.scope.kind == .function && env.kindOf n == some .cell) = true
      · rw [if_pos hc]
        simp only [List.lookup_cons, hx]
        exact ih h
      · rw [if_neg hc]
        simp only [List.lookup_cons, hx]
        exact ih h
theorem blkOk_rel {N : List Str} {scope1 scope2 : Scope} {own : List (Str × Nat)} {cl : List (Str × Addr)} {C : Addr} {env : Env} (h : BlkOk N scope1 scope2 own) : BlkOk N (compEnvC scope1 cl C env).scope scope2 own :=
  ⟨h.kind, h.uniq, h.ix, fun y hy e => lookup_rel (h.free y hy e), h.own⟩
/-! ### <= over data -/
def rLeD (K : PySem.W.Frag) : R2 := fun x y H Q => ∃ d e, Dp K H x d ∧ Dp K H y e ∧ PySem.W.alike d e = true ∧ d ≠ .none ∧ d.depth ≤ 64 ∧ Q (.bl (!PySem.W.dataLt e d)) H
theorem op_leD {X : Cx} (hu : X.A.units + 64 < cLine) : OpR X (compareOp .LtE) (rLeD X.K) := by
  intro pins s σ H x y v u Q I rx ry h
  obtain ⟨d, e, hd, he, ha, hn, hz, q⟩ := h
  obtain ⟨as, r1⟩ := Dp.reads I d x v hd rx
  obtain ⟨bs, r2⟩ := Dp.reads I e y u he ry
  exact PySem.W.le_data r1 r2 ha hn (by omega) ⟨.bl _, H, I, rfl, q⟩
def dLe (x y : D) : Option Bool := if x.pl = true ∧ y.pl = true ∧ PySem.W.alike x.toP y.toP = true ∧ x.toP.depth ≤ 64 then some (!PySem.W.dataLt y.toP x.toP) else none
def cLeA : D → D → Option Bool
  | .int i, .int j => some (decide (i ≤ j))
  | .str a, .str b => some (!decide (b < a))
  | .lst a, .lst b => dLe (.lst a) (.lst b)
  | .tup a, .tup b => dLe (.tup a) (.tup b)
  | _, _ => none
def rLeA (κ : Kx) : R2 := fun x y H Q => rCm (fun i j => decide (i ≤ j)) (fun a b => !decide (b < a)) x y H Q ∨ rLeD κ.K x y H Q
theorem o_leA {X : Cx} {κ : Kx} (hK : X.K = κ.K) (hu : X.A.units + 64 < cLine) : OpR X (compareOp .LtE) (rLeA κ) := by
  unfold rLeA
  rw [← hK]
  exact OpR.or o_le (op_leD hu)
theorem dLe_of {κ : Kx} {x y : V} {dx dy : D} {z : Bool} {H G : Hp} {Q : VK} (hn : dx.toP ≠ .none) (e : dLe dx dy = some z) (s : Same G H) (rx : RBq κ H G x dx) (ry : RBq κ H G y dy) (q : Q (.bl z) H) : rLeD κ.K x y H Q := by
  unfold dLe at e
  split at e
  · rename_i h
    cases e
    exact ⟨_, _, rx.dp s h.1, ry.dp s h.2.1, h.2.2.1, hn, h.2.2.2, q⟩
  · cases e
theorem s_leA {κ : Kx} : OpB κ (rLeA κ) cLeA := fun x y dx dy z H G Q e s rx ry q => by
  cases dx <;> cases dy <;> try (cases e; done)
  · rename_i i j
    exact .inl (s_cm x y (.int i) (.int j) z H G Q e s rx ry q)
  · rename_i i j
    exact .inl (s_cm x y (.str i) (.str j) z H G Q e s rx ry q)
  · exact .inr (dLe_of (by simp only [D.toP]; exact fun z => nomatch z) e s rx ry q)
  · exact .inr (dLe_of (by simp only [D.toP]; exact fun z => nomatch z) e s rx ry q)
/-- statements that are never reached -/
theorem pss_none {X : Cx} {κ : Kx} {W : WX} {sts : List Stmt} : PSs X sts (tS κ W fun _ => none) := ⟨fun pins s σ H D I h => by
  obtain ⟨G, env, r, q⟩ := h
  exact q.elim⟩
end Vs

set_option Elab.async false
set_option linter.all false
set_option maxRecDepth 100000
set_option maxHeartbeats 2000000
/-! Vs8: sep.join(reversed(text)). -/
namespace RS
open PySem PySem.Spec PyProof.Rows L2
theorem norev_str : typeLookup (.type "str") "__reversed__" = pure none := by rw [typeLookup_type, builtinLookup_eq_fast]; kernel_rfl
theorem get_str : typeLookup (.type "str") "__getitem__" = pure (some (.builtin "str.__getitem__")) := by rw [typeLookup_type, builtinLookup_eq_fast]; kernel_rfl
theorem sub_str_dict : isSubtype (.type "str") (.type "dict") = pure false := by rw [isSubtype_type]; kernel_rfl
theorem nolen_rs : typeLookup (.type "reversed") "__len__" = pure none := by rw [typeLookup_type, builtinLookup_eq_fast]; kernel_rfl
theorem hint_rs : typeLookup (.type "reversed") "__length_hint__" = pure (some (.builtin "reversed.__length_hint__")) := by rw [typeLookup_type, builtinLookup_eq_fast]; kernel_rfl
theorem slot_rs_hint : Slot "reversed" "__length_hint__" "reversed.__length_hint__" :=
  .of (owner := "reversed") (n := "__length_hint__") (by rw [typeLookup_type, builtinLookup_eq_fast]; kernel_rfl) (by decide +kernel) (by decide +kernel) (by decide +kernel)
    (by first | exact .inl (by decide +kernel) | exact .inr (by decide +kernel)) (by rw [isSubtype_type]; kernel_rfl)
theorem entry_rs_hint : entryFor table "reversed.__length_hint__" = some Builtin.«reversed.__length_hint__» := entryFor_of_tree (by kernel_rfl)
theorem args_rs_hint (a : Value) : argsOk "reversed.__length_hint__" ⟨[a], []⟩ := by
  unfold argsOk; rw [signature?_of (id := "reversed.__length_hint__") (n := ['_', '_', 't', 'n', 'i', 'h', '_', 'h', 't', 'g', 'n', 'e', 'l', '_', '_']) (o := ['d', 'e', 's', 'r', 'e', 'v', 'e', 'r']) (by kernel_rfl) RT.owner_rt]; kernel_rfl

def rsObj (x : Str) (t : Tok) (i : Int) : Obj := { cls := .type "reversed", data := .fields #[.str x t, rawInt i] }
def IsRs (h : Heap) (a : Addr) (x : Str) (t : Tok) (i : Int) : Prop := ∃ o, h.get? a = some o ∧ o.cls = .type "reversed" ∧ o.data = .fields #[.str x t, rawInt i]
theorem IsRs.at {h h' : Heap} {a : Addr} {x : Str} {t : Tok} {i : Int} (q : IsRs h a x t i) (e : ∀ o, h.get? a = some o → h'.get? a = some o) : IsRs h' a x t i := let ⟨o, ho, r⟩ := q; ⟨o, e _ ho, r⟩
section
variable {prog : Program} {w : World} {A : Around} {E : Value → Shared → Prop} {s : Shared} {x : Str} {t : Tok}
theorem IsRs.typeIs {a : Addr} {i : Int} (q : IsRs s.heap a x t i) : s.TypeIs (.ref a) "reversed" := let ⟨o, ho, hc, _⟩ := q; ⟨o, ho, hc⟩

theorem code_reversed_str {Q₁ : Value → Shared → Prop} (hn : x.length ≤ sizeLine)
    (h : Q₁ (.ref s.heap.objs.size) { s with heap := s.heap.push (rsObj x t ((x.length : Int) - 1)), toks := s.toks + 1 + 1 }) :
    codeAny (model prog w) A (.call (.builtin "reversed.__new__") ⟨[.type "reversed", .str x t], []⟩) (wants Q₁ E) s := by
  have hT : s.TypeIs (.str x t) "str" := typeIs_str _ _ _
  rw [sizeLine_eq] at hn
  refine codeAny_of_tree ?_
  show wpAny _ A.in1 (do checkBuiltinCall "reversed.__new__" ⟨[.type "reversed", .str x t], []⟩; again (.builtin "reversed.__new__" ⟨[.type "reversed", .str x t], []⟩)) _ _ s
  refine wpAny_bind (wpAny_of_eq (F.newCall_reversed_1 _) (wpAny_pure ⟨plainId_quiet F.plain_reversed_new _, codeAny_builtin F.entry_reversed_new ?_⟩))
  rw [Around.under_plainId F.plain_reversed_new _]
  unfold Builtin.«reversed.__new__»
  refine wpAny_bind (wpAny_of_eq (newClass_reversed _) ?_)
  try dsimp only
  refine wpAny_bind (wpAny_of_eq (a := ()) (by first | rfl | kernel_rfl) ?_)
  try dsimp only
  refine wpAny_bind (wpAny_of_eq (a := ()) (by first | rfl | kernel_rfl) ?_)
  try dsimp only
  refine wpAny_bind (wpAny_specialOf hT norev_str ?_)
  try dsimp only
  refine wpAny_bind ?_
  wp_delta
  refine wpAny_bind (wpAny_isInstance (T := "str") (U := "dict") (b := false) hT sub_str_dict ?_)
  try dsimp only
  try rw [if_neg Bool.false_ne_true]
  try dsimp only
  refine wpAny_bind (wpAny_specialOf hT get_str ?_)
  try dsimp only
  try rw [if_pos (by decide +kernel)]
  refine wpAny_pure ?_
  try dsimp only
  try rw [if_neg (by decide)]
  try dsimp only
  refine wpAny_bind (P.len_str (by omega) ?_)
  refine wpAny_bind (wpAny_of_eq (a := some ((x.length : Nat) : Int)) rfl ?_)
  try dsimp only
  refine wpAny_bind ?_
  show wpAny _ _ (newObj (.type "reversed") (.fields #[.str x t, rawInt ((x.length : Int) - 1)])) _ _ _
  refine wpAny_newObj_type ?_
  exact wpAny_pure h

theorem call_reversed_str {Q : Value → Shared → Prop} (hn : x.length ≤ sizeLine)
    (h : Q (.ref s.heap.objs.size) { s with heap := s.heap.push (rsObj x t ((x.length : Int) - 1)), toks := s.toks + 1 + 1 }) : wpAny (model prog w) A (call (.type "reversed") [.str x t]) Q E s := by
  refine callType_codes (Q₁ := fun obj s₁ => s₁.TypeIs obj "reversed" ∧ Q obj s₁) RT.called_rt (F.typeCall_reversed_1 _) F.entry_object_init
    (code_reversed_str (A := A.in1) hn ⟨⟨_, Heap.get?_push_size _ rfl, rfl⟩, h⟩) fun obj s₁ h₁ => ?_
  exact ⟨h₁.1, F.args_object_init_2 obj _, object_init_meets RT.called_rt.init.lookup RT.called_rt.made (by decide) prog w A.in1 _ s₁ ⟨h₁.1, rfl, h₁.2⟩⟩

theorem next_rs_item {it : Addr} {i c : Nat} {Q : Option Value → Shared → Prop} (hit : IsRs s.heap it x t (i : Int)) (hx : x.cps[i]? = some c) (hsz : x.length ≤ sizeLine)
    (hQ : ∀ h' u k, IsRs h' it x t ((i : Int) - 1) → Heap.SameBut it s.heap h' → Q (some (.str ⟨#[c]⟩ u)) { s with heap := h', toks := k }) : wpAny (model prog w) A (pyNext (.ref it)) Q E s := by
  obtain ⟨o, ho, hc, hd⟩ := id hit
  have hi : i < x.length := (Array.getElem?_eq_some_iff.mp hx).1
  have hT : s.TypeIs (.str x t) "str" := typeIs_str _ _ _
  rw [sizeLine_eq] at hsz
  unfold pyNext
  refine wpAny_bind (wpAny_attempt (wpAny_callSpecial?_slot (name := Str.ofString "__next__") hit.typeIs RT.slot_rt_next
    (wpAny_call_entry RT.slot_rt_next hit.typeIs RT.entry_rt_next ?_ (RT.args_rt_next _))))
  unfold Builtin.«reversed.__next__»
  refine wpAny_bind (wpAny_of_eq (a := (Value.ref it, [])) rfl ?_)
  try dsimp only
  refine wpAny_bind (wpAny_field ho hd (x := .str x t) rfl ?_)
  try dsimp only
  refine wpAny_bind (wpAny_field ho hd (x := rawInt (i : Int)) rfl ?_)
  show wpAny _ _ (if (i : Int) < 0 then _ else _) _ _ s
  rw [if_neg (by omega)]
  try dsimp only
  refine wpAny_bind (wpAny_specialOf hT get_str ?_)
  try dsimp only
  try rw [if_neg (by decide)]
  try dsimp only
  refine wpAny_bind (wpAny_mkInt ?_)
  refine wpAny_bind (wpAny_attempt ?_)
  have fin : seqIndex? (i : Int) x.length = some i := seqIndex_of (by omega) (by omega)
  refine P.getItem_str (s := { s with toks := s.toks + 1 }) (by rw [Bool.or_eq_false_iff]; exact ⟨decide_eq_false (by omega), decide_eq_false (by omega)⟩) (c := c) (by rw [fin]; exact hx) ?_
  try dsimp only
  refine wpAny_bind (wpAny_field (s := { s with toks := s.toks + 1 + 1 }) ho hd (x := rawInt (i : Int)) rfl ?_)
  try dsimp only
  refine wpAny_bind (wpAny_setField (s := { s with toks := s.toks + 1 + 1 }) ho hd (by simp) ?_)
  first
  | refine wpAny_pure ⟨_, rfl, wpAny_pure (hQ _ _ _ ?_ (Heap.SameBut.update ..))⟩
  | refine wpAny_bind (wpAny_pure (wpAny_pure ⟨_, rfl, wpAny_pure (hQ _ _ _ ?_ (Heap.SameBut.update ..))⟩))
  exact ⟨_, Heap.get?_update_self _ ho (Obj.isFreed_of_fields (Obj.data_mapFields hd _)), (Obj.cls_mapFields ..).trans hc, by
    rw [Obj.data_mapFields hd]; simp⟩

theorem next_rs_end {it : Addr} {Q : Option Value → Shared → Prop} (hh : A.handled = none) (hit : IsRs s.heap it x t (-1))
    (hQ : ∀ h', Heap.ExtBut it s.heap h' → Q none { s with heap := h' }) : wpAny (model prog w) A (pyNext (.ref it)) Q E s := by
  obtain ⟨o, ho, hc, hd⟩ := id hit
  unfold pyNext
  refine wpAny_bind (wpAny_attempt (wpAny_callSpecial?_slot (name := Str.ofString "__next__") hit.typeIs RT.slot_rt_next
    (wpAny_call_entry RT.slot_rt_next hit.typeIs RT.entry_rt_next ?_ (RT.args_rt_next _))))
  unfold Builtin.«reversed.__next__»
  refine wpAny_bind (wpAny_of_eq (a := (Value.ref it, [])) rfl ?_)
  try dsimp only
  refine wpAny_bind (wpAny_field ho hd (x := .str x t) rfl ?_)
  try dsimp only
  refine wpAny_bind (wpAny_field ho hd (x := rawInt (-1)) rfl ?_)
  show wpAny _ _ (if (-1 : Int) < 0 then _ else _) _ _ s
  rw [if_pos (by decide)]
  try dsimp only
  refine wpAny_bind (wpAny_rule ?_)
  refine wpAny_bind ?_
  wp_delta
  refine wpAny_bind (wpAny_setField ho hd (by simp) ?_)
  have ho2 := Heap.get?_update_self (Obj.mapFields (·.setIfInBounds 1 (rawInt (-1)))) ho (Obj.isFreed_of_fields (Obj.data_mapFields hd _))
  refine wpAny_setField (s := { s with heap := s.heap.update it (Obj.mapFields (·.setIfInBounds 1 (rawInt (-1)))) }) ho2 (Obj.data_mapFields hd _) (by simp) ?_
  try dsimp only
  first
  | show wpAny _ _ (newExc (.type "StopIteration") [] >>= _) _ _ _
  | (refine wpAny_bind ?_; show wpAny _ _ (newExc (.type "StopIteration") [] >>= _) _ _ _)
  | (refine wpAny_bind ?_; wp_delta; show wpAny _ _ (newExc (.type "StopIteration") [] >>= _) _ _ _)
  refine wpAny_bind ?_
  simp only [newExc, newTuple]
  refine wpAny_bind (wpAny_newObj_type ?_ (by size_fits))
  refine wpAny_bind (m := firstArgMember _ _) (wpAny_of_eq (a := Value.none) (by first | rfl | (simp only [firstArgMember]; rfl)) ?_)
  refine wpAny_newObj_type ?_ (by size_fits)
  simp only [raiseNew]
  refine wpAny_bind (wpAny_handled ?_)
  first | rw [show A.in1.handled = none from hh] | rw [hh]
  refine wpAny_bind (wpAny_pure (wpAny_throw ?_))
  refine wpAny_bind (wpAny_isInstance (T := "StopIteration") (b := true) ⟨_, Heap.get?_push_size _ rfl, rfl⟩ isSubtype_stop ?_)
  refine wpAny_pure (hQ _ ?_)
  refine ((?_ : Heap.ExtBut it s.heap _).push _).push _
  exact fun b ob hb e => (Heap.get?_update_other _ _ (Ne.symm hb)).trans ((Heap.get?_update_other _ _ (Ne.symm hb)).trans e)

theorem iter_rs {it : Addr} {i : Int} {Q : Value → Shared → Prop} (hit : IsRs s.heap it x t i) (h : Q (.ref it) s) : wpAny (model prog w) A (pyIter (.ref it)) Q E s := by
  refine wpAny_pyIter_slot hit.typeIs RT.slot_rt_iter (wpAny_call_entry RT.slot_rt_iter hit.typeIs RT.entry_rt_iter ?_ (RT.args_rt_iter _))
  show wpAny _ _ (ret (.ref it)) _ _ s
  exact wpAny_pure ⟨_, rfl, "reversed", _, hit.typeIs, RT.slot_rt_next.lookup, h⟩
theorem hint_call {it : Addr} {i : Int} {Q : Value → Shared → Prop} (hit : IsRs s.heap it x t i) (hn : x.length ≤ sizeLine) (hi : i < x.length)
    (h : ∀ u k, Q (.int (i + 1) u) { s with toks := k }) : wpAny (model prog w) A (call (.builtin "reversed.__length_hint__") [.ref it]) Q E s := by
  obtain ⟨o, ho, hc, hd⟩ := id hit
  rw [sizeLine_eq] at hn
  refine wpAny_call_entry slot_rs_hint hit.typeIs entry_rs_hint ?_ (args_rs_hint _)
  unfold Builtin.«reversed.__length_hint__»
  refine wpAny_bind (wpAny_of_eq (a := Value.ref it) rfl ?_)
  try dsimp only
  refine wpAny_bind (wpAny_field ho hd (x := .str x t) rfl ?_)
  try dsimp only
  try rw [if_neg (by decide)]
  try dsimp only
  refine wpAny_bind (P.len_str (by omega) ?_)
  refine wpAny_bind (wpAny_of_eq (a := some ((x.length : Nat) : Int)) rfl ?_)
  try dsimp only
  refine wpAny_bind (wpAny_field (s := { s with toks := s.toks + 1 + 1 }) ho hd (x := rawInt i) rfl ?_)
  show wpAny _ _ (if (x.length : Int) < i + 1 then _ else _) _ _ _
  rw [if_neg (by omega)]
  refine wpAny_bind (wpAny_mkInt ?_)
  exact wpAny_pure ⟨_, rfl, h _ _⟩
theorem walks_rs (hh : A.handled = none) (I : Addr) (x : Str) (t : Tok) (hn : x.length ≤ sizeLine) :
    Walks prog w A I [I] [I] x.length (fun i v => ∃ (c : Nat) (u : Tok), x.cps[x.length - 1 - i]? = some c ∧ v = .str ⟨#[c]⟩ u) (fun i h => i ≤ x.length ∧ IsRs h I x t ((x.length : Int) - 1 - (i : Int))) where
  sub := fun b hb => hb
  frame := fun _ _ _ q hk => ⟨q.1, q.2.at fun o e => hk I (by simp) o e⟩
  item := fun i s Q E hi q hQ => by
    have e : (x.length : Int) - 1 - (i : Int) = ((x.length - 1 - i : Nat) : Int) := by omega
    have hit := q.2
    rw [e] at hit
    have hlt : x.length - 1 - i < x.cps.size := by show _ < x.length; omega
    have hx : x.cps[x.length - 1 - i]? = some x.cps[x.length - 1 - i] := Array.getElem?_eq_getElem hlt
    refine next_rs_item hit hx hn fun h' u k hit' hs' => ?_
    have e2 : ((x.length - 1 - i : Nat) : Int) - 1 = (x.length : Int) - 1 - ((i + 1 : Nat) : Int) := by omega
    rw [e2] at hit'
    exact hQ _ h' k ⟨_, u, hx, rfl⟩ ⟨hi, hit'⟩ fun b o hb eo => hs'.extBut b o (fun h => hb (by simp [h])) eo
  done := fun s Q E q hQ => by
    have e : (x.length : Int) - 1 - (x.length : Int) = -1 := by omega
    have hit := q.2
    rw [e] at hit
    exact next_rs_end hh hit fun h' he' => hQ h' s.toks fun b o hb eo => he' b o (fun h => hb (by simp [h])) eo
  self := fun _ _ _ _ q hQ => iter_rs q.2 hQ

theorem collect_rs {it : Addr} {Q : List Value → Shared → Prop} (hh : A.handled = none) (hit : IsRs s.heap it x t ((x.length : Int) - 1)) (hn : x.length ≤ sizeLine)
    (hQ : ∀ (h' : Heap) (tk : Nat) (acc : Array Value), (∀ b o, b ≠ it → s.heap.get? b = some o → h'.get? b = some o) → ItemsOf (fun i v => ∃ (c : Nat) (u : Tok), x.cps[x.length - 1 - i]? = some c ∧ v = .str ⟨#[c]⟩ u) acc x.length → Q acc.toList { s with heap := h', toks := tk }) :
    wpAny (model prog w) A (collect (.ref it)) Q E s := by
  have W := (walks_rs (prog := prog) (w := w) (A := A.in1) hh it x t hn).toS
  obtain ⟨oi, hoi, _⟩ := id hit
  have hSi : s.heap.objs.size ≠ it := Nat.ne_of_gt (Heap.lt_size hoi)
  have hSf : s.heap.objs.size ∉ [it] := by simp only [List.mem_cons, List.not_mem_nil, or_false]; exact hSi
  unfold collect
  refine wpAny_bind (wpAny_runValue (codeAny_builtin F.entry_proto_collect ?_))
  rw [Around.under_plainId F.plain_proto_collect _]
  show wpAny _ A.in1 (newList [] >>= fun l' => again (.builtin "list.__iadd__" ⟨[l', .ref it], []⟩)) _ _ s
  refine wpAny_bind (wpAny_newObj_type ?_)
  refine wpAny_pure ⟨plainId_quiet F.plain_list_iadd _, codeAny_builtin F.entry_list_iadd ?_⟩
  rw [Around.under_plainId F.plain_list_iadd _]
  have hS₁ : (s.heap.push { cls := .type "list", data := .seq ([] : List Value).toArray }).get? s.heap.objs.size = some { cls := .type "list", data := .seq ([] : List Value).toArray } := Heap.get?_push_size _ rfl
  have hit1 : IsRs (s.heap.push { cls := .type "list", data := .seq ([] : List Value).toArray }) it x t ((x.length : Int) - 1) := hit.at fun o e => Heap.get?_push_of_some _ e
  have hT : ({ s with heap := s.heap.push { cls := .type "list", data := .seq ([] : List Value).toArray } } : Shared).TypeIs (.ref it) "reversed" := IsRs.typeIs (s := { s with heap := s.heap.push { cls := .type "list", data := .seq ([] : List Value).toArray } }) hit1
  have h1 : Builtin.List.listSameRef (.ref s.heap.objs.size) (.ref it) = false := by simp [Builtin.List.listSameRef, hSi]
  have e0 : ((x.length : Nat) : Int) - 1 - ((0 : Nat) : Int) = (x.length : Int) - 1 := by omega
  show wpAny _ A.in1 (Builtin.List.listExtendWith (.ref s.heap.objs.size) (.ref it) (.ref s.heap.objs.size)) _ _ _
  unfold Builtin.List.listExtendWith
  refine wpAny_bind (wpAny_typeOf hT ?_)
  rw [if_neg (by rw [h1]; decide)]
  refine wpAny_bind (iter_rs (s := { s with heap := s.heap.push { cls := .type "list", data := .seq ([] : List Value).toArray } }) hit1 ?_)
  refine wpAny_bind (wpAny_holding ?_)
  unfold Builtin.List.listLengthHint
  refine wpAny_bind (wpAny_specialOf hT nolen_rs ?_)
  show wpAny _ A.in1 (specialOf (Value.ref it) (Str.ofString "__length_hint__") >>= _) _ _ _
  refine wpAny_bind (wpAny_specialOf hT hint_rs ?_)
  generalize hid : ("reversed.__length_hint__" : String) = id0
  wp_delta
  rw [show splitId id0 = some ("reversed", "__length_hint__") from by subst hid; decide +kernel]
  subst hid
  refine wpAny_bind (wpAny_isInstance (b := true) hT (by rw [isSubtype_type]; kernel_rfl) ?_)
  rw [if_neg (by decide)]
  try dsimp only
  rw [if_neg (by decide +kernel)]
  refine wpAny_bind (wpAny_rule ?_)
  refine wpAny_bind (wpAny_of_eq (slot_rs_hint.bind _) ?_)
  try dsimp only
  refine wpAny_bind (wpAny_attempt ?_)
  refine hint_call (s := { s with heap := s.heap.push { cls := .type "list", data := .seq ([] : List Value).toArray } }) hit1 hn (by omega) fun u k => ?_
  have hn2 := hn
  rw [sizeLine_eq] at hn2
  obtain ⟨n, hnn⟩ : ∃ n : Int, n = (x.length : Int) - 1 + 1 := ⟨_, rfl⟩
  rw [← hnn]
  have n0 : 0 ≤ n := by omega
  have n1 : n ≤ 16777216 := by omega
  try dsimp only
  refine wpAny_bind (wpAny_of_eq (a := some n) rfl ?_)
  have z1 : Builtin.List.listFitsIndex n = true := by
    unfold Builtin.List.listFitsIndex
    rw [Bool.and_eq_true]
    exact ⟨decide_eq_true (by omega), decide_eq_true (by omega)⟩
  have z2 : Builtin.List.listTooLong n.toNat = false := by
    unfold Builtin.List.listTooLong
    rw [sizeLine_eq]
    exact decide_eq_false (by omega)
  try dsimp only
  rw [z1, if_neg (by decide), if_neg (show ¬ n < 0 by omega), z2, if_neg (by decide)]
  refine wpAny_pure ?_
  by_cases hz : n = 0
  · rw [hz]
    rw [if_neg (by decide)]
    refine wpAny_pure ⟨plainId_quiet F.plain_extend_loop _, codeAny_extend_loopS W hn _ hSf _ x.length 0 _ _ _ rfl (Nat.zero_le _) ⟨Nat.zero_le _, by rw [e0]; exact hit1⟩ hS₁ (ItemsOf.nil _) fun s' acc' c' hm hS' hacc => ?_⟩
    show wpAny _ A (load s.heap.objs.size >>= _) _ _ s'
    refine wpAny_bind (wpAny_load hS' ?_)
    refine wpAny_pure ?_
    rw [Moved.eq_with hm]
    refine hQ s'.heap s'.toks acc' (fun b o hb e => hm.heap b o (fun hmem => ?_) (Heap.get?_push_of_some _ e)) hacc
    rcases List.mem_cons.mp hmem with e' | hmem
    · exact absurd (Heap.lt_size e) (by rw [e']; exact Nat.lt_irrefl _)
    · exact hb (List.mem_singleton.mp hmem)
  · have hb : (n != 0) = true := bne_iff_ne.mpr hz
    rw [hb]
    rw [if_pos (by decide)]
    refine wpAny_bind (wpAny_rule ?_)
    refine wpAny_bind ?_
    show wpAny _ A.in1 (updateSeq s.heap.objs.size (·.push .none) >>= fun _ => updateSeq s.heap.objs.size (·.pop)) _ _ _
    refine wpAny_bind (wpAny_updateSeq hS₁ rfl ?_)
    have hS₂ := Heap.get?_update_self (Obj.mapSeq (·.push Value.none)) hS₁ rfl
    refine wpAny_updateSeq hS₂ rfl ?_
    have hS₃ := Heap.get?_update_self (Obj.mapSeq (·.pop)) hS₂ rfl
    have oth : ∀ b o, b ≠ s.heap.objs.size → (s.heap.push { cls := .type "list", data := .seq ([] : List Value).toArray }).get? b = some o →
        (((s.heap.push { cls := .type "list", data := .seq ([] : List Value).toArray }).update s.heap.objs.size (Obj.mapSeq (·.push Value.none))).update s.heap.objs.size (Obj.mapSeq (·.pop))).get? b = some o :=
      fun b o hb e => (Heap.get?_update_other _ _ (Ne.symm hb)).trans ((Heap.get?_update_other _ _ (Ne.symm hb)).trans e)
    refine wpAny_pure ⟨plainId_quiet F.plain_extend_loop _, codeAny_extend_loopS W hn _ hSf _ x.length 0 _ _ _ rfl (Nat.zero_le _) ⟨Nat.zero_le _, by rw [e0]; exact hit1.at fun o e => oth it o (Ne.symm hSi) e⟩ hS₃ (ItemsOf.nil _) fun s' acc' c' hm hS' hacc => ?_⟩
    show wpAny _ A (load s.heap.objs.size >>= _) _ _ s'
    refine wpAny_bind (wpAny_load hS' ?_)
    refine wpAny_pure ?_
    rw [Moved.eq_with hm]
    refine hQ s'.heap s'.toks acc' (fun b o hb e => hm.heap b o (fun hmem => ?_) (oth b o (Nat.ne_of_lt (Heap.lt_size e)) (Heap.get?_push_of_some _ e))) hacc
    rcases List.mem_cons.mp hmem with e' | hmem
    · exact absurd (Heap.lt_size e) (by rw [e']; exact Nat.lt_irrefl _)
    · exact hb (List.mem_singleton.mp hmem)

theorem revs (x : Str) {acc : Array Value} (h : ItemsOf (fun i v => ∃ (c : Nat) (u : Tok), x.cps[x.length - 1 - i]? = some c ∧ v = Value.str ⟨#[c]⟩ u) acc x.length) : StrsAre acc.toList (x.cps.toList.reverse.map fun c => (⟨#[c]⟩ : Str)) := by
  obtain ⟨h1, h2⟩ := h
  have hl : x.cps.toList.length = x.length := by simp [Str.length]
  have key : ∀ (i : Nat) (v : Value), acc.toList[i]? = some v → ∃ (y : Str) (t : Tok), (x.cps.toList.reverse.map fun c => (⟨#[c]⟩ : Str))[i]? = some y ∧ v = .str y t := by
    intro i v hv
    have hv' : acc[i]? = some v := by simpa using hv
    obtain ⟨c, u, hc, rfl⟩ := h2 i v hv'
    have hi : i < acc.size := (Array.getElem?_eq_some_iff.mp hv').1
    refine ⟨⟨#[c]⟩, u, ?_, rfl⟩
    rw [List.getElem?_map, List.getElem?_reverse (by omega), hl]
    have : x.cps.toList[x.length - 1 - i]? = some c := by rw [Array.getElem?_toList]; exact hc
    rw [this]
    rfl
  have hz : acc.toList.length = (x.cps.toList.reverse.map fun c => (⟨#[c]⟩ : Str)).length := by
    rw [List.length_map, List.length_reverse, hl, Array.length_toList]; exact h1
  generalize (x.cps.toList.reverse.map fun c => (⟨#[c]⟩ : Str)) = ys at key hz
  generalize acc.toList = L at hz key
  clear h1 h2 hl
  induction L generalizing ys with
  | nil =>
    cases ys with
    | nil => exact .nil
    | cons y r => simp at hz
  | cons v L ih =>
    cases ys with
    | nil => simp at hz
    | cons y ys =>
      obtain ⟨y', t, hy, rfl⟩ := key 0 v rfl
      have ey : y = y' := Option.some.inj hy
      subst ey
      exact .cons y t (ih _ (by simpa using hz) (fun i w hw => key (i + 1) w (by simpa using hw)))
/-- sep.join(reversed(text)) -/
theorem join_rs {it : Addr} {y : Str} {ty : Tok} {Q : Value → Shared → Prop} (hh : A.handled = none) (hit : IsRs s.heap it x t ((x.length : Int) - 1)) (hn : x.length ≤ sizeLine)
    (hok : ((x.cps.toList.reverse.map fun c => (⟨#[c]⟩ : Str)).map (·.length)).sum + (x.cps.toList.reverse.map fun c => (⟨#[c]⟩ : Str)).length * y.length ≤ 16777216)
    (hq : ∀ (h' : Heap) (t' : Tok) (k : Nat), (∀ b o, b ≠ it → s.heap.get? b = some o → h'.get? b = some o) → Q (.str (Txt.join y (x.cps.toList.reverse.map fun c => (⟨#[c]⟩ : Str))) t') { s with heap := h', toks := k }) :
    wpAny (model prog w) A (call (.builtin "str.join") [.str y ty, .ref it]) Q E s := by
  refine wpAny_call (codeAny_call_builtin F.slot_str_join.plain F.entry_str_join (F.slot_str_join.check _ _ _ _ _ _ _ _ (typeIs_str _ _ _) (F.args_str_join_2 _ _) ?_))
  rw [join_tree_other]
  refine wpAny_bind (wpAny_typeOf hit.typeIs ?_)
  show wpAny _ A.in1 ((pyIter (.ref it)).tryCatch _ >>= fun it => collect it >>= fun items => joinTail y items) _ _ s
  refine wpAny_bind (wpAny_tryCatch (iter_rs hit ?_))
  refine wpAny_bind (collect_rs (A := A.in1) hh hit hn fun h' tk acc hk hacc => ?_)
  have ht0 := revs x hacc
  revert hok hq ht0
  generalize (x.cps.toList.reverse.map fun c => (⟨#[c]⟩ : Str)) = ys
  intro hok hq ht0
  obtain ⟨l, hl, ht⟩ := strsAre_values ht0
  subst ht
  rw [hl]
  have hok' := joinOk_of hok
  unfold JoinOk at hok'
  rw [Bool.not_eq_true'] at hok'
  have g : Gives (joinTail y (strValues l)) (joinMade y l) := by
    have g0 := gives_joinTail y l hok'
    cases l with
    | nil => exact g0
    | cons p r => cases r with
      | nil => exact g0
      | cons q r' => exact g0
  exact g prog w A (wants Q E) { s with heap := h', toks := tk } (post_join l ⟨joinFit_length hok', fun t' k => hq h' t' k hk⟩)
end
section
variable {X : Cx}
def tJoinRev (to te : TE) : TE := fun σ H Q => to σ H fun v H1 => (∃ a, v = .str a) ∧ te σ H1 fun u H2 => ∃ a b : Str, v = .str a ∧ u = .str b ∧ b.length ≤ sizeLine ∧
  ((b.cps.toList.reverse.map fun c => (⟨#[c]⟩ : Str)).map (·.length)).sum + (b.cps.toList.reverse.map fun c => (⟨#[c]⟩ : Str)).length * a.length ≤ 16777216 ∧ Q (.str (Txt.join a (b.cps.toList.reverse.map fun c => (⟨#[c]⟩ : Str)))) H2
theorem pe_joinRev {o e : Expr} {to te : TE} {apos pos p pos2 : Pos} (hc : X.calm = true) (ho : PE X o to) (hg : Gl X "reversed") (hm : X.mg "reversed" = none) (he : PE X e te)
    (hs1 : starEach [.Call (.Name "reversed" p) [e] [] pos2] X.env = [(false, eval (.Call (.Name "reversed" p) [e] [] pos2) X.env)] := by rfl)
    (hs : starEach [e] X.env = (false, eval e X.env) :: starEach [] X.env := by rfl)
    (hbase : attributeBase o "join" X.env (eval o X.env) = eval o X.env := by rfl) (hline : (apos.endLine == pos.line) = true := by rfl) :
    PE X (.Call (.Attribute o "join" apos) [.Call (.Name "reversed" p) [e] [] pos2] [] pos) (tJoinRev to te) := by
  refine ⟨fun pins s σ H Q I h => ?_⟩
  refine PySem.Call_method1 hbase hs1 hline (thn (ho.run pins s σ H _ I h) fun v s1 ⟨x, H1, I1, r1, q1⟩ => ?_)
  obtain ⟨⟨a, rfl⟩, q1⟩ := q1
  obtain ⟨t, rfl⟩ := _root_.id r1
  refine ⟨"str", _, F.plainAttrs_str, F.slot_str_join, F.type_str_join, typeIs_str _ _ _, (fun _ e => nomatch e), Calls.callWith_builtin rfl (Calls.evalArgs_plain (Calls.spliced_cons ?_))⟩
  refine Call_ (ld_blt I1 hg hm PyProof.Rows.boot_reversed (PyProof.Rows.callWith_type1 (args_cons (thn (he.run pins s1 σ H1 _ I1 q1) fun u s2 ⟨v2, H2, I2, r2, q2⟩ => args_nil ?_) hs) hs rfl))
  obtain ⟨a', b, ea, rfl, hb, hok, q2⟩ := q2
  cases ea
  obtain ⟨t2, rfl⟩ := _root_.id r2
  refine call_reversed_str hb ?_
  refine Calls.spliced_nil ?_
  have I3 : Inv X pins σ H2 { s2 with heap := s2.heap.push (rsObj b t2 ((b.length : Int) - 1)), toks := s2.toks + 1 + 1 } := I2.kept (t' := s2.toks + 1 + 1) fun b o e => Heap.get?_push_of_some _ e
  obtain ⟨f0, f1, f2, f3, f4, f5⟩ := I2.fpOk (H' := H2) (b := s2.heap.objs.size) (Nat.le_refl _) (I2.hok.fresh (Nat.le_refl _))
  refine join_rs (s := { s2 with heap := s2.heap.push (rsObj b t2 ((b.length : Int) - 1)), toks := s2.toks + 1 + 1 }) (I2.ok.hd hc) ⟨_, Heap.get?_push_size _ rfl, rfl, rfl⟩ hb hok fun h' t' k hk => ?_
  exact ⟨.str _, H2, I3.turned (t' := k) (fun b o hb e => hk b o hb e) f0 f1 f3 f4 f5, ⟨t', rfl⟩, q2⟩
end
/-! ### list(reversed(list)) -/
section
variable {prog : Program} {w : World} {A : Around} {E : Value → Shared → Prop} {s : Shared}
theorem init_rev {R : Result → Shared → Prop} {it l : Addr} {items : Array Value} (hh : A.handled = none) (hit : s.heap.IsRevIter it l ((items.size : Int) - 1)) (hl : s.heap.IsList l items) (hne : l ≠ it) (hn : items.size ≤ sizeLine) (S : Addr) (hS : s.heap.get? S = some { cls := .type "list", data := .seq #[] }) (hSl : S ≠ l)
    (hR : ∀ h' tk acc' c', (∀ b o, b ≠ S → b ≠ it → s.heap.get? b = some o → h'.get? b = some o) → h'.get? S = some { cls := .type "list", dict := none, data := .seq acc' c', slots := #[] } →
      ItemsOf (fun i v => items[items.size - 1 - i]? = some v) acc' items.size → R (.ok (.ret .none)) { s with heap := h', toks := tk }) :
    wpAny (model prog w) A.in1 (Builtin.«list.__init__» ⟨[.ref S, .ref it], []⟩)
      (fun fin s' => match fin with | .done f => R (.ok f) s' | .again c' => c'.quiet = true ∧ codeAny (model prog w) A c' R s') (fun e s' => R (.error e) s') s := by
  have hSi : S ≠ it := fun e => by
    obtain ⟨o, ho, hc, _⟩ := hit
    rw [e, ho] at hS
    cases hS
    exact absurd hc (by decide)
  have W := (Walks.listRev (prog := prog) (w := w) (A := A.in1) hh it l hne items).toS
  have hSf : S ∉ [it, l] := by simp only [List.mem_cons, List.not_mem_nil, or_false, not_or]; exact ⟨hSi, hSl⟩
  show wpAny _ _ (do let old ← Builtin.List.listItems (.ref S); Builtin.List.listUpdate (.ref S) (fun _ => #[]); letGo old.toList.reverse; Builtin.List.listExtendWith (.ref S) (.ref it) .none) _ _ s
  refine wpAny_bind ?_
  unfold Builtin.List.listItems
  refine wpAny_bind (wpAny_seqItems hS rfl (wpAny_pure ?_))
  show wpAny _ _ (updateSeq S (fun _ => #[]) >>= fun _ => letGo (#[] : Array Value).toList.reverse >>= fun _ => Builtin.List.listExtendWith (.ref S) (.ref it) .none) _ _ s
  refine wpAny_bind (wpAny_updateSeq hS rfl ?_)
  have hS₂ := Heap.get?_update_self (Obj.mapSeq (fun _ => (#[] : Array Value))) hS rfl
  have oth : ∀ b o, b ≠ S → s.heap.get? b = some o → (s.heap.update S (Obj.mapSeq (fun _ => (#[] : Array Value)))).get? b = some o :=
    fun b o hb e => (Heap.get?_update_other _ _ (Ne.symm hb)).trans e
  refine wpAny_bind (wpAny_letGo ?_)
  have hit2 : (s.heap.update S (Obj.mapSeq (fun _ => (#[] : Array Value)))).IsRevIter it l ((items.size : Int) - 1) := hit.at fun o e => oth it o (Ne.symm hSi) e
  have hl2 : (s.heap.update S (Obj.mapSeq (fun _ => (#[] : Array Value)))).IsList l items := by
    obtain ⟨ol, hol, r⟩ := hl
    exact ⟨ol, oth l ol (Ne.symm hSl) hol, r⟩
  have hT : ({ s with heap := s.heap.update S (Obj.mapSeq (fun _ => (#[] : Array Value))) } : Shared).TypeIs (.ref it) "list_reverseiterator" := Heap.IsRevIter.typeIs (s := { s with heap := _ }) hit2
  have h1 : Builtin.List.listSameRef (.ref S) (.ref it) = false := by simp [Builtin.List.listSameRef, hSi]
  unfold Builtin.List.listExtendWith
  refine wpAny_bind (wpAny_typeOf hT ?_)
  rw [if_neg (by rw [h1]; decide)]
  refine wpAny_bind (wpAny_pyIter_revIter (s := { s with heap := _ }) hit2 ?_)
  refine wpAny_bind (wpAny_holding ?_)
  unfold Builtin.List.listLengthHint
  refine wpAny_bind (wpAny_specialOf hT RT.nolen_lri ?_)
  show wpAny _ A.in1 (specialOf (Value.ref it) (Str.ofString "__length_hint__") >>= _) _ _ _
  refine wpAny_bind (wpAny_specialOf hT RT.hint_lri ?_)
  generalize hid : ("list_reverseiterator.__length_hint__" : String) = id0
  wp_delta
  rw [show splitId id0 = some ("list_reverseiterator", "__length_hint__") from by subst hid; decide +kernel]
  subst hid
  refine wpAny_bind (wpAny_isInstance (b := true) hT (by rw [isSubtype_type]; kernel_rfl) ?_)
  refine wpAny_pure ?_
  rw [if_neg (by decide)]
  have e0 : ((items.size : Nat) : Int) - 1 - ((0 : Nat) : Int) = (items.size : Int) - 1 := by omega
  refine wpAny_pure ⟨plainId_quiet F.plain_extend_loop _, codeAny_extend_loopS W hn _ hSf _ items.size 0 _ #[] _ rfl (Nat.zero_le _) ⟨Nat.zero_le _, by rw [e0]; exact hit2, hl2⟩ hS₂ (ItemsOf.nil _) fun s' acc' c' hm hS' hacc => ?_⟩
  rw [Moved.eq_with hm]
  refine hR s'.heap s'.toks acc' c' (fun b o hb hb2 e => hm.heap b o (fun hmem => ?_) (oth b o hb e)) hS' hacc
  rcases List.mem_cons.mp hmem with e' | hmem
  · exact hb e'
  · exact hb2 (List.mem_singleton.mp hmem)
theorem call_list_rev {Q : Value → Shared → Prop} {it l : Addr} {items : Array Value} (hh : A.handled = none) (hit : s.heap.IsRevIter it l ((items.size : Int) - 1)) (hl : s.heap.IsList l items) (hne : l ≠ it) (hn : items.size ≤ sizeLine)
    (hQ : ∀ h' tk acc' c', (∀ b o, b ≠ it → s.heap.get? b = some o → h'.get? b = some o) →
      h'.get? s.heap.objs.size = some { cls := .type "list", dict := none, data := .seq acc' c', slots := #[] } → ItemsOf (fun i v => items[items.size - 1 - i]? = some v) acc' items.size → Q (.ref s.heap.objs.size) { s with heap := h', toks := tk }) :
    wpAny (model prog w) A (call (.type "list") [.ref it]) Q E s := by
  refine callType_codes (Q₁ := fun obj s₁ => obj = .ref s.heap.objs.size ∧ s₁ = { s with heap := s.heap.push { cls := .type "list", data := .seq #[] } }) F.called_list (F.typeCall_list_1 _) F.entry_list_init
    (code_list_new _ ⟨rfl, rfl⟩) fun obj s₁ h₁ => ?_
  obtain ⟨rfl, rfl⟩ := h₁
  have hS : (s.heap.push { cls := .type "list", data := .seq #[] }).get? s.heap.objs.size = some { cls := .type "list", data := .seq #[] } := Heap.get?_push_size _ rfl
  have hSl : s.heap.objs.size ≠ l := by
    obtain ⟨ol, hol, _⟩ := hl
    exact Nat.ne_of_gt (Heap.lt_size hol)
  refine ⟨⟨_, hS, rfl⟩, F.args_list_init_2 _ _, init_rev (A := A.in1) (s := { s with heap := s.heap.push { cls := .type "list", data := .seq #[] } }) hh (hit.at fun o e => Heap.get?_push_of_some _ e) (hl.push _) hne hn _ hS hSl fun h' tk acc' c' hk hS' hacc => ?_⟩
  exact ⟨rfl, hQ h' tk acc' c' (fun b o hb e => hk b o (Nat.ne_of_lt (Heap.lt_size e)) hb (Heap.get?_push_of_some _ e)) hS' hacc⟩
end
section
variable {X : Cx}
def tListRev (K : PySem.W.Frag) (te : TE) : TE := fun σ H Q => te σ H fun v H1 => ∃ (a : Addr) (xs : List V), v = .ref a ∧ SqL K H1 a xs ∧ ∀ q, H1 q = none → Q (.ref q) (upd H1 q (.lst xs.reverse))
theorem pe_listRev {e : Expr} {te : TE} {p p2 pos pos2 : Pos} (hc : X.calm = true) (hg : Gl X "list") (hm : X.mg "list" = none) (hg2 : Gl X "reversed") (hm2 : X.mg "reversed" = none) (he : PE X e te)
    (hs : starEach [e] X.env = (false, eval e X.env) :: starEach [] X.env := by rfl)
    (hs2 : starEach [.Call (.Name "reversed" p2) [e] [] pos2] X.env = (false, eval (.Call (.Name "reversed" p2) [e] [] pos2) X.env) :: starEach [] X.env := by rfl) :
    PE X (.Call (.Name "list" p) [.Call (.Name "reversed" p2) [e] [] pos2] [] pos) (tListRev X.K te) := by
  refine ⟨fun pins s σ H Q I h => ?_⟩
  refine Call_ (ld_blt I hg hm boot_list (PyProof.Rows.callWith_type1 (args_cons (Call_ (ld_blt I hg2 hm2 PyProof.Rows.boot_reversed (PyProof.Rows.callWith_type1 (args_cons (thn (he.run pins s σ H _ I h) fun u s1 ⟨v, H1, I1, r1, q1⟩ => args_nil ?_) hs) hs rfl))) hs2) hs2 rfl))
  obtain ⟨a, xs, ev, hq, q⟩ := q1
  subst ev
  obtain rfl : u = Value.ref a := r1
  obtain ⟨its, rv, p', hz⟩ := I1.list hq
  refine call_reversed_list p'.isList (args_nil ?_)
  have k0 : ∀ b o, s1.heap.get? b = some o → (s1.heap.push (revObj a ((its.toArray.size : Int) - 1))).get? b = some o := fun b o e => Heap.get?_push_of_some _ e
  have I2 : Inv X pins σ H1 { s1 with heap := s1.heap.push (revObj a ((its.toArray.size : Int) - 1)) } := I1.kept (t' := s1.toks) k0
  obtain ⟨f0, f1, f2, f3, f4, f5⟩ := I1.fpOk (H' := H1) (b := s1.heap.objs.size) (Nat.le_refl _) (I1.hok.fresh (Nat.le_refl _))
  have hl := p'.isList
  obtain ⟨ol, hol, _⟩ := id hl
  have hne : a ≠ s1.heap.objs.size := Nat.ne_of_lt (Heap.lt_size hol)
  have hn : its.toArray.size ≤ sizeLine := by rw [List.size_toArray, ← rv.length]; exact hz
  refine call_list_rev (s := { s1 with heap := s1.heap.push (revObj a ((its.toArray.size : Int) - 1)) }) (I1.ok.hd hc) ⟨_, Heap.get?_push_size _ rfl, rfl, rfl⟩ (hl.push _) hne hn fun h' tk acc c' hk hS' hi => ?_
  have hfp : ∀ b ∈ [s1.heap.objs.size], FpOk X pins H1 b := fun b hb => by
    rw [List.mem_singleton.mp hb]
    exact ⟨f0, f1, f2, f3, f4, f5⟩
  have hszT : (s1.heap.push (revObj a ((its.toArray.size : Int) - 1))).objs.size = s1.heap.objs.size + 1 := Heap.size_push ..
  have hT : s1.heap.objs.size ≤ (s1.heap.push (revObj a ((its.toArray.size : Int) - 1))).objs.size := by rw [hszT]; exact Nat.le_succ _
  refine ⟨.ref _, upd H1 _ (.lst xs.reverse), I1.turnedNew (t' := tk) (ch := [s1.heap.objs.size]) (fun b o hb e => hk b o (fun z => hb (by rw [z]; exact List.mem_singleton_self _)) (k0 b o e)) hfp hT (show ObjOk X.prog X.w _ _ _ (.lst xs.reverse) from ⟨by rw [List.length_reverse]; exact hz, acc.toList, c', RT.vals_rev rv hi, ?_⟩), rfl, q _ (I1.hok.fresh hT)⟩
  rw [Array.toArray_toList]
  exact hS'
end
end RS
namespace Vs
open PySem L2
/-! ### reversed -/
theorem join_singles : ∀ w : List Nat, (Txt.join (S []) (w.map fun c => (⟨#[c]⟩ : Str))).cps.toList = w
  | [] => by
    rw [show ∀ y parts, Txt.join y parts = Str.join y parts from fun y parts => StrLaws.glued_eq_join y parts]
    rfl
  | [c] => by
    rw [show ∀ y parts, Txt.join y parts = Str.join y parts from fun y parts => StrLaws.glued_eq_join y parts]
    rfl
  | c :: d :: w => by
    have ih := join_singles (d :: w)
    rw [show ∀ y parts, Txt.join y parts = Str.join y parts from fun y parts => StrLaws.glued_eq_join y parts] at ih ⊢
    show ((⟨#[c]⟩ : Str) ++ S [] ++ Str.join (S []) ((d :: w).map fun c => (⟨#[c]⟩ : Str))).cps.toList = _
    have e : ∀ x y : Str, (x ++ y).cps.toList = x.cps.toList ++ y.cps.toList := fun x y => by
      show (x.cps ++ y.cps).toList = _
      rw [Array.toList_append]
    rw [e, e, ih]
    rfl
theorem sum_singles : ∀ w : List Nat, ((w.map fun c => (⟨#[c]⟩ : Str)).map (·.length)).sum = w.length
  | [] => rfl
  | c :: w => by
    have ih := sum_singles w
    rw [List.map_cons, List.map_cons, List.sum_cons, ih, List.length_cons]
    show 1 + w.length = _
    omega
/-- ''.join(reversed(text)) -/
def opJoinRev : List Nat → D → Option Rs
  | [], .str w => if w.length ≤ szl then some (.sh (.str w.reverse)) else none
  | _, _ => none
/-- list(reversed(list)) -/
def fLRev (m : Sm D) : Sm Rs := bnd m fun d e => match d with
  | .lst l => some (.ok (.ow l.reverse) e)
  | _ => none
section
variable {X : Cx} {κ : Kx} {W : WX} {o e : Expr} {mo me : Sm D} {apos pos p p2 pos2 : Pos}
theorem v_joinRev (hc : X.calm = true) (hg : Gl X "reversed") (hm : X.mg "reversed" = none) (ho : PE X o (tX κ W (RB κ) mo)) (he : PE X e (tX κ W (RB κ) me))
    (hs1 : starEach [.Call (.Name "reversed" p) [e] [] pos2] X.env = [(false, eval (.Call (.Name "reversed" p) [e] [] pos2) X.env)] := by rfl)
    (hs : starEach [e] X.env = (false, eval e X.env) :: starEach [] X.env := by rfl)
    (hbase : attributeBase o "join" X.env (eval o X.env) = eval o X.env := by rfl) (hline : (apos.endLine == pos.line) = true := by rfl) :
    PE X (.Call (.Attribute o "join" apos) [.Call (.Name "reversed" p) [e] [] pos2] [] pos) (tX κ W (RV κ) (fM1 opJoinRev mo me)) := PE.imp (RS.pe_joinRev hc ho hg hm he hs1 hs hbase hline) fun σ H Q ⟨G, env, rp, q⟩ => by
  refine bind_post rp q fun dx e1 x H1 G1 _ rp1 rx s1 f1 q1 => ?_
  cases dx with
  | str w =>
    refine ⟨⟨S w, RBq.str rx⟩, ?_⟩
    refine bind_post rp1 q1 fun dy e2 y H2 G2 _ rp2 ry s2 f2 q3 => ?_
    cases w with
    | cons _ _ => cases dy <;> exact q3.elim
    | nil =>
      cases dy with
      | str v =>
        dsimp only [opJoinRev] at q3
        by_cases hl : v.length ≤ szl
        · rw [if_pos hl] at q3
          have e1 : (S v).cps.toList = v := S_cps v
          have hsz : sizeLine = 16777216 := sizeLine_eq
          have hl3 : v.length ≤ 1000000 := hl
          refine ⟨S [], S v, RBq.str rx, RBq.str ry, by rw [S_len]; exact szl_le hl, ?_, ?_⟩
          · rw [e1, sum_singles, List.length_reverse, S_len]
            show v.length + _ * 0 ≤ _
            omega
          · have e2 : Txt.join (S []) ((S v).cps.toList.reverse.map fun c => (⟨#[c]⟩ : Str)) = S v.reverse := by
              rw [e1]
              have := join_singles v.reverse
              rw [← S_list (Txt.join _ _), this]
            rw [e2]
            exact post_sh rp2 (.str _) q3
        · rw [if_neg hl] at q3; exact q3.elim
      | _ => exact q3.elim
  | _ => exact q1.elim
theorem v_listRev (hK : X.K = κ.K) (hc : X.calm = true) (hg : Gl X "list") (hm : X.mg "list" = none) (hg2 : Gl X "reversed") (hm2 : X.mg "reversed" = none) (he : PE X e (tX κ W (RB κ) me))
    (hs : starEach [e] X.env = (false, eval e X.env) :: starEach [] X.env := by rfl)
    (hs2 : starEach [.Call (.Name "reversed" p2) [e] [] pos2] X.env = (false, eval (.Call (.Name "reversed" p2) [e] [] pos2) X.env) :: starEach [] X.env := by rfl) :
    PE X (.Call (.Name "list" p) [.Call (.Name "reversed" p2) [e] [] pos2] [] pos) (tX κ W (RV κ) (fLRev me)) := PE.imp (RS.pe_listRev hc hg hm hg2 hm2 he hs hs2) fun σ H Q ⟨G, env, rp, q⟩ => by
  refine bind_post rp q fun dx e1 x H1 G1 _ rp1 rx s1 f1 q1 => ?_
  cases dx with
  | lst l =>
    obtain ⟨a, xs, rfl, h1, h2⟩ := RBq.lst rp1.sub rx
    exact ⟨a, xs, rfl, SqL.of h1, fun p hp => post_ow rp1 hp h2.rev q1⟩
  | _ => exact q1.elim
end
end Vs

set_option Elab.async false
set_option linter.all false
set_option maxRecDepth 100000
set_option maxHeartbeats 2000000
/-! Vs9: a list that a call gave and no name holds, changed in a statement; isinstance of three classes. -/
namespace Vs
open PySem PySem.Spec PyProof.Rows L2
section
variable {κ : Kx} {W : WX} {σ : L2.St} {H H' : Hp} {G G' : Gh} {env env' : En} {a : Addr}
theorem Rep.tmp {u : HO} {xs : List V} (r : Rep κ H G σ env) (hl : H a = some (.lst xs)) (g0 : G.g a = none) (f : Fre G env a) : Rep κ (upd H a u) G σ env where
  sub := ⟨same_upd r.sub.s g0, r.sub.n, tabs_of r.sub.t fun b v q np => by
    have n : b ≠ a := fun z => by
      rw [z, hl] at q
      cases q
      exact np ⟨(fun _ z => nomatch z), (fun _ z => nomatch z)⟩
    rw [upd_ne n]
    exact q⟩
  len := r.len
  inj := r.inj
  slot := fun i s e => by
    have s0 := r.slot i s e
    have f0 := f i s e
    have ro : ∀ {x : V} {o : O}, RO κ H G.g x o (G.fp i) → RO κ (upd H a u) G.g x o (G.fp i) := fun q => q.grow (Same.refl _) (fun b v m e => by
      have n : b ≠ a := fun z => f0 (z ▸ m)
      rw [upd_ne n]
      exact e) fun b m => (q.own m).2
    cases s with
    | un => exact s0
    | sh d => exact s0
    | bo l =>
      obtain ⟨b, xs, h1, h2, h3, h4⟩ := s0
      refine ⟨b, xs, h1, ?_, h3, h4⟩
      have n : b ≠ a := fun z => f0 (by rw [h4, z]; exact List.mem_singleton_self a)
      rw [upd_ne n]
      exact h2
    | ow l => obtain ⟨x, h1, h2⟩ := s0; exact ⟨x, h1, ro h2⟩
    | lk l => obtain ⟨x, h1, h2⟩ := s0; exact ⟨x, h1, ro h2⟩
    | io o => obtain ⟨x, h1, h2⟩ := s0; exact ⟨x, h1, ro h2⟩
    | tr o => obtain ⟨x, h1, h2⟩ := s0; exact ⟨x, h1, ro h2⟩
theorem Fr.tmp {H0 : Hp} {G0 : Gh} {σ0 : L2.St} {env0 : En} {u : HO} (f : Fr H0 G0 σ0 env0 H G σ env) (n : Nw H0 G0 env0 a) : Fr H0 G0 σ0 env0 (upd H a u) G σ env where
  hk := fun b o h m => by
    have z : b ≠ a := fun z => m (n o (z ▸ h) |> fun q => z ▸ q)
    rw [upd_ne z]
    exact f.hk b o h m
  gk := f.gk
  gn := f.gn
  mm := f.mm
  lk := f.lk
theorem fre_fr {σ' : L2.St} {o : HO} (r : Rep κ H' G' σ' env') (f : Fr H G σ env H' G' σ' env') (h : H a = some o) (z : Fre G env a) : Fre G' env' a := fun i s e m => by
  by_cases q : s.mut = true
  · obtain ⟨j, t, h1, h2, h3⟩ := f.mm a o h ⟨i, s, e, q, m⟩
    exact z j t h1 h3
  · by_cases x : s.fix = true
    · obtain ⟨s0, h1, h2, _, h4⟩ := f.lk i s x e
      have q' : s.mut = false := by cases w : s.mut with
        | true => exact absurd w q
        | false => rfl
      have e0 := was_eq q' x h2
      rw [h4 e0 q'] at m
      exact z i s0 h1 m
    · have s0 := r.slot i s e
      cases s with
      | un => rw [show G'.fp i = [] from s0] at m; cases m
      | sh d => rw [s0.1] at m; cases m
      | _ => first | exact absurd rfl q | exact absurd rfl x
end
/-- e().clear(), the list that the call gave -/
def sTmpC (m : Sm Rs) : Ss := sbnd m fun r e => match r with
  | .ow _ => some (.nx e)
  | _ => none
/-- e().append(v) -/
def sTmpA (m : Sm Rs) (m2 : Sm D) : Ss := sbnd m fun r => match r with
  | .ow l => if l.length < szl then sbnd m2 fun _ e => some (.nx e) else fun _ => none
  | _ => fun _ => none
section
variable {X : Cx} {κ : Kx} {W : WX} {e o : Expr} {mo : Sm Rs} {m : Sm D} {apos cpos pos p2 : Pos}
theorem s_tmpC (hK : X.K = κ.K) (ho : PE X o (tI κ W (RV κ) mo))
    (hs : swapsWith (.Call (.Attribute o "clear" apos) [] [] cpos) none pos.line X.env = pure false := by rfl) (hbase : attributeBase o "clear" X.env (eval o X.env) = eval o X.env := by rfl) (hline : (apos.endLine == cpos.line) = true := by rfl) :
    PS X (.Expr (.Call (.Attribute o "clear" apos) [] [] cpos) pos) (tS κ W (sTmpC mo)) :=
  PS.imp (ps_expr (pe_bm0 PySem.F.plainAttrs_list PySem.F.slot_list_clear PySem.F.type_list_clear mt_clear ho hbase hline) hs) fun D σ H ⟨G, env, r0, q⟩ => by
    rw [hK]
    refine ⟨G, env, r0, ?_⟩
    unfold sTmpC sbnd at q
    cases w : mo env with
    | none => rw [w] at q; exact q
    | some y => cases y with
      | ex x e1 => rw [w] at q; exact fun c d H' G' a b g => q c d σ H' G' a b g
      | ok z e1 =>
        rw [w] at q
        cases z with
        | sh d => exact q.elim
        | tr o => exact q.elim
        | ow l =>
          intro v H1 G1 r1 rv f1
          obtain ⟨a, xs, rfl, h1, h2, h3, h4, h5⟩ := rv
          exact ⟨.inl ⟨rfl, xs, SqL.of h1⟩, a, xs, rfl, rfl, h1, q σ _ G1 (r1.tmp h1 h2 h4) (f1.tmp h5)⟩
theorem s_tmpA (hK : X.K = κ.K) (ho : PE X o (tI κ W (RV κ) mo)) (he : PE X e (tI κ W (RP κ) m))
    (hs : swapsWith (.Call (.Attribute o "append" apos) [e] [] cpos) none pos.line X.env = pure false := by rfl)
    (hbase : attributeBase o "append" X.env (eval o X.env) = eval o X.env := by rfl)
    (hfew : ((backTo cpos (starEach [e] X.env)).all (fun x => !x.1) && (backToKw cpos (keywordEach [] X.env)).all (fun x => x.1.isSome)
      && decide (([e] : List Expr).length + ([] : List Keyword).length + (if ([] : List Keyword).isEmpty then 0 else 1) < 30)) = true := by rfl)
    (hline : (apos.endLine == cpos.line) = true := by rfl) (hst : starEach [e] X.env = (false, eval e X.env) :: starEach [] X.env := by rfl) (hplain : (backTo cpos (starEach [] X.env)).any (·.1) = false := by rfl) :
    PS X (.Expr (.Call (.Attribute o "append" apos) [e] [] cpos) pos) (tS κ W (sTmpA mo m)) :=
  PS.imp (ps_expr (pe_bm PySem.F.plainAttrs_list PySem.F.slot_list_append PySem.F.type_list_append mt_append ho (pa_cons he pa_nil hst) hbase hfew hline hst hplain) hs) fun D σ H ⟨G, env, r0, q⟩ => by
    rw [hK]
    refine ⟨G, env, r0, ?_⟩
    unfold sTmpA sbnd at q
    cases w : mo env with
    | none => rw [w] at q; exact q
    | some y => cases y with
      | ex x e1 => rw [w] at q; exact fun c d H' G' a b g => q c d σ H' G' a b g
      | ok z e1 =>
        rw [w] at q
        cases z with
        | sh d => exact q.elim
        | tr o => exact q.elim
        | ow l =>
          intro v H1 G1 r1 rv f1
          obtain ⟨a, xs, rfl, h1, h2, h3, h4, h5⟩ := rv
          dsimp only at q
          by_cases hsz : l.length < szl
          · rw [if_pos hsz] at q
            refine ⟨.inl ⟨rfl, xs, SqL.of h1⟩, G1, e1, r1, ?_⟩
            have nm : ¬ Mt G1 e1 a := fun ⟨i, s, z1, _, z3⟩ => h4 i s z1 z3
            cases w2 : m e1 with
            | none => rw [w2] at q; exact q
            | some y => cases y with
              | ex x e2 => rw [w2] at q; exact fun c d H' G' a b g => q c d σ H' G' a b (f1.trans g)
              | ok z e2 =>
                rw [w2] at q
                intro u H2 G2 r2 ru f2
                have k1 := f2.at h1 nm
                have k2 := f2.gn a _ h1 h2 nm
                have k3 := fre_fr r2 f2 h1 h4
                exact ⟨a, xs, u, rfl, rfl, k1, by rw [h3.length]; exact szl_lt (Nat.le_of_lt hsz), q σ _ G2 (r2.tmp k1 k2 k3) ((f1.trans f2).tmp h5)⟩
          · rw [if_neg hsz] at q; exact q.elim
end
theorem kit_three {K : PySem.W.Frag} {t A B C : Value} {b1 b2 b3 : Bool} (h1 : PySem.W.kitAny K t [A] = some b1) (h2 : PySem.W.kitAny K t [B] = some b2) (h3 : PySem.W.kitAny K t [C] = some b3) : PySem.W.kitAny K t [A, B, C] = some (b1 || b2 || b3) := by
  have h4 := kit_two h2 h3
  unfold PySem.W.kitAny at h1
  split at h1
  · rename_i z
    cases h1
    unfold PySem.W.kitAny
    rw [z]
    rfl
  · rename_i z
    cases h1
    unfold PySem.W.kitAny
    rw [z]
    rw [h4]
    rfl
  · cases h1
section
variable {X : Cx} {κ : Kx} {W : WX} {x : Str} {np : Pos} {i : Nat}
/-- isinstance(e, (A, B, C)) of the caught error -/
theorem v_isXR {a : Addr} {oe : Obj} {cls : Value} {d : Option Addr} {pn : List (Addr × Obj)} {p p1 p2 p3 pt pos : Pos} {k2 : Nat} {T1 T2 T3 : Str} {cV1 cV2 cV3 : V} {cv1 cv2 cv3 : Value} {t : Nat → Option Bool} (hK : X.K = κ.K) (hB : IsB κ.K) (hk : KsOk κ [cv1, cv2, cv3] t) (hz : Zc cls d oe) (hf : ∃ vs, oe.data = .fields vs) (hg : Gl X "isinstance") (hm : X.mg "isinstance" = none) (h1 : ClsV cV1 cv1) (h2 : ClsV cV2 cv2) (h3 : ClsV cV3 cv3)
    (hT1 : PE (X.suite a ((a, oe) :: pn)) (.Name T1 p1) (tC cV1)) (hT2 : PE (X.suite a ((a, oe) :: pn)) (.Name T2 p2) (tC cV2)) (hT3 : PE (X.suite a ((a, oe) :: pn)) (.Name T3 p3) (tC cV3)) (ho : PE (X.suite a ((a, oe) :: pn)) (.Name x np) (tVar i))
    (hv : bootBuiltins "isinstance" = some (.builtin "isinstance") := by decide +kernel) (hs1 : starEach [.Name T1 p1, .Name T2 p2, .Name T3 p3] X.env = [(false, eval (.Name T1 p1) X.env), (false, eval (.Name T2 p2) X.env), (false, eval (.Name T3 p3) X.env)] := by rfl) (hs2 : starEach [.Name T2 p2, .Name T3 p3] X.env = [(false, eval (.Name T2 p2) X.env), (false, eval (.Name T3 p3) X.env)] := by rfl) (hs3 : starEach [.Name T3 p3] X.env = [(false, eval (.Name T3 p3) X.env)] := by rfl)
    (hst : starEach [.Name x np, .Tuple [.Name T1 p1, .Name T2 p2, .Name T3 p3] k2 pt] X.env = [(false, eval (.Name x np) X.env), (false, eval (.Tuple [.Name T1 p1, .Name T2 p2, .Name T3 p3] k2 pt) X.env)] := by rfl) (hst2 : starEach [.Tuple [.Name T1 p1, .Name T2 p2, .Name T3 p3] k2 pt] X.env = [(false, eval (.Tuple [.Name T1 p1, .Name T2 p2, .Name T3 p3] k2 pt) X.env)] := by rfl) (hpl : (backTo pos (starEach [.Tuple [.Name T1 p1, .Name T2 p2, .Name T3 p3] k2 pt] X.env)).any (·.1) = false := by rfl) :
    PE (X.suite a ((a, oe) :: pn)) (.Call (.Name "isinstance" p) [.Name x np, .Tuple [.Name T1 p1, .Name T2 p2, .Name T3 p3] k2 pt] [] pos) (tX κ W (RP κ) (fXi t ⟨a, cls, d⟩ i)) :=
  PE.imp (pe_callB (X := X.suite a ((a, oe) :: pn)) (call_isXT hK hB hz hf) hg hm hv (pa_cons ho (pa_cons (pe_tup (pa_cons hT1 (pa_cons hT2 (pa_cons hT3 pa_nil (by rw [hs3]; rfl)) (by rw [hs2, hs3])) (by rw [hs1, hs2]))) pa_nil (by rw [hst2]; rfl)) (by rw [hst, hst2])) (by decide) (by decide) (by rw [hst, hst2]) hpl) fun σ H Q ⟨G, env, rp, q⟩ => by
    obtain ⟨y, b, e1, xr, e, q1⟩ := fxi_of rp q
    obtain ⟨ic, k1⟩ := hk _ _ e
    refine ⟨.ref a, e1, (show 3 ≤ sizeLine by decide), fun tp htp => ?_⟩
    have st := new_sh (o := .tup [cV1, cV2, cV3]) rp htp
    refine ⟨tp, [cV1, cV2, cV3], [cv1, cv2, cv3], b, y, rfl, upd_same, .cons h1 (.cons h2 (.cons h3 .nil)), xr.mono (same_new htp), ic, by rw [show cls = .ref (κ.xc y.c) from xr.1]; exact k1, ?_⟩
    exact q1 _ _ _ st.rep (.bl b) st.same st.fr
end
end Vs

set_option Elab.async false
set_option linter.all false
set_option maxRecDepth 100000
set_option maxHeartbeats 2000000
/-! Va: several except clauses with names; is False. -/
namespace L2
open PySem PySem.Spec PyProof.Rows
/-- what the named clauses wish of an exception of the body, one after the other -/
def wManyAs (K : PySem.W.Frag) (Wout : WX) (D : Ends) : List (Value × Option Nat × (Addr → Value → Option Addr → TS)) → WX
  | [] => Wout
  | (c, none, ts) :: r => fun cls d σ H => ∃ b, PySem.W.exmOne K cls c = some b ∧ (b = true → ∀ a, H a = none → ts a cls d D σ H) ∧ (b = false → wManyAs K Wout D r cls d σ H)
  | (c, some i, ts) :: r => fun cls d σ H => ∃ b, PySem.W.exmOne K cls c = some b ∧ (b = true → ∀ a, H a = none → ts a cls d { nx := fun σ' H' => D.nx (σ'.set i none) H', rt := D.rt, bk := fun σ' H' => D.bk (σ'.set i none) H', ct := fun σ' H' => D.ct (σ'.set i none) H' } (σ.set i (some (.ref a))) H) ∧ (b = false → wManyAs K Wout D r cls d σ H)
inductive HdsAs (X : Cx) : List ExceptHandler → List (Value × Option Nat × (Addr → Value → Option Addr → TS)) → Prop
  | nil : HdsAs X [] []
  | cons {x n : Str} {c : Value} {i : Nat} {ts : Addr → Value → Option Addr → TS} {b₀ : Stmt} {suite : List Stmt} {np pos' : Pos} {hds : List ExceptHandler} {l : List (Value × Option Nat × (Addr → Value → Option Addr → TS))} (hc : Names X x c) (hi : X.N[i]? = some n) (hln : X.env.kindOf n = some .local)
      (hsu : ∀ (a : Addr) (oe : Obj) (cls : Value) (d : Option Addr) (pn : List (Addr × Obj)), Zc cls d oe → (∃ vs, oe.data = .fields vs) → PSs (X.suite a ((a, oe) :: pn)) (b₀ :: suite) (ts a cls d)) (r : HdsAs X hds l) :
      HdsAs X (.ExceptHandler (some (.Name x np)) (some n) (b₀ :: suite) pos' :: hds) ((c, some i, ts) :: l)
  | cons0 {x : Str} {c : Value} {ts : Addr → Value → Option Addr → TS} {b₀ : Stmt} {suite : List Stmt} {np pos' : Pos} {hds : List ExceptHandler} {l : List (Value × Option Nat × (Addr → Value → Option Addr → TS))} (hc : Names X x c)
      (hsu : ∀ (a : Addr) (oe : Obj) (cls : Value) (d : Option Addr) (pn : List (Addr × Obj)), Zc cls d oe → (∃ vs, oe.data = .fields vs) → PSs (X.suite a ((a, oe) :: pn)) (b₀ :: suite) (ts a cls d)) (r : HdsAs X hds l) :
      HdsAs X (.ExceptHandler (some (.Name x np)) none (b₀ :: suite) pos' :: hds) ((c, none, ts) :: l)
section
variable {X : Cx} {body : List Stmt} {h₀ : ExceptHandler} {hds : List ExceptHandler} {l : List (Value × Option Nat × (Addr → Value → Option Addr → TS))} {pos : Pos} {tb : WX → TS} {Wout : WX}
theorem ps_try_many_as (hs : X.stack = X.env :: X.outer) (hf : X.env.frame = some X.env.locals) (hN : X.N.Nodup) (tk : Takes X Wout)
    (hb : ∀ (W : WX) (pn : List (Addr × Obj)) (xe : Value → Shared → Prop), Takes (X.tr pn xe) W → PassesOwn (model X.prog X.w) X.A X.env xe → PSs (X.tr pn xe) body (tb W))
    (hh : HdsAs X (h₀ :: hds) l) : PS X (.Try body (h₀ :: hds) [] [] pos) (fun D σ H => tb (wManyAs X.K Wout D l) D σ H) := by
  refine ⟨fun pins s σ H D I h => ?_⟩
  have ok := I.ok
  have hfr : X.A.frames = some (X.env :: X.outer) := by rw [ok.frames, hs]
  refine wpAny_Try_except ?_
  refine wpAny_mono ((hb (wManyAs X.K Wout D l) (X.pn ++ pins) (fun e s₁ => wpAny (model X.prog X.w) X.A (noteFrame e X.env) (fun _ s₂ => wpAny (model X.prog X.w) X.A (setFlight e none) (fun _ s₃ =>
    wpAny (model X.prog X.w) X.A (handleBy e X.env (h₀ :: hds)) (SP X pins D) X.xe s₃) X.xe s₂) X.xe s₁) (fun u s' xx => ?_) PassesOwn.looking).run [] s σ H D (I.toTry _) h) (fun f s1 hsp => ?_) (fun e s1 he => he)
  · -- the catch
    obtain ⟨a, B, sI, pins', σ', H', cls, d, rfl, J', nb, up, sky, na, os, ag, w⟩ := xx
    have J : Inv X pins σ' H' sI := J'.ofTry ok
    have sky' : Sky B (X.env :: X.outer) a (Zc cls d) X.env.locals s'.heap := by rw [← hs]; exact sky
    show wpAny (model X.prog X.w) X.A (noteFrame (.ref a) X.env) _ _ _
    refine Sky.land Zc.steady hfr hf sky' fun h3 fl3 up3 => ?_
    have J3 : Inv X pins σ' H' { s' with heap := h3 } := J.landed nb fl3.1 (up.trans up3) os ag
    obtain ⟨oe3, vs3, he3, hz3, hd3⟩ := fl3.there
    have notFr : ∀ {h : Heap} {o : Obj} {vs : Array Value}, h.FunFrames B (X.env :: X.outer) → h.get? a = some o → o.data = .fields vs → a ∉ frs (X.env :: X.outer) := fun {h o vs} ff e dd hm => by
      obtain ⟨_, o', e', hnf⟩ := ff.mem hm
      rw [e] at e'; cases e'
      exact hnf _ dd
    have nfr := notFr fl3.2.2.1 he3 hd3
    have nL : a ≠ X.env.locals := fun z => nfr (List.mem_filterMap.mpr ⟨X.env, List.mem_cons_self, by rw [hf, z]⟩)
    have nF : a ∉ X.fs := fun hm => by
      obtain ⟨e, he, q⟩ := List.mem_filterMap.mp hm
      exact nfr (List.mem_filterMap.mpr ⟨e, List.mem_cons_of_mem _ he, q⟩)
    have S3 := J3.suite he3 hd3 na nL nF
    have go : ∀ {hds' : List ExceptHandler} {l' : List (Value × Option Nat × (Addr → Value → Option Addr → TS))}, HdsAs X hds' l' → wManyAs X.K Wout D l' cls d σ' H' →
        wpAny (model X.prog X.w) X.A (handleBy (.ref a) X.env hds') (SP X pins D) X.xe { s' with heap := h3 } := by
      intro hds' l' hk
      induction hk with
      | nil =>
        intro w
        refine wpAny_handleBy_nil ?_
        obtain ⟨k1, k2, k3, oe, vs, T, oT, ts', he, hz, hd, h1, hr⟩ := id fl3
        unfold PySem.passOn
        refine wpAny_bind (wpAny_field he hd h1 ?_)
        rw [if_neg (show ¬ ((Value.ref T == Value.none) = true) from by simp)]
        have fin : wpAny (model X.prog X.w) X.A (setFlight (.ref a) X.env.frame) (fun _ s4 => wpAny (model X.prog X.w) X.A (throw (.ref a) : Sem Flow) (SP X pins D) X.xe s4) X.xe { s' with heap := h3 } := by
          rw [hf]
          refine HandSPX.setFlight_upZ fl3 fun h4 hh4 up4 => wpAny_throw (tk _ _ ?_)
          exact ⟨a, B, sI, pins, σ', H', cls, d, rfl, J, nb, (up.trans up3).trans up4, .inr (.inr (by rw [hs]; exact hh4)), na, os, ag, w⟩
        first
          | exact wpAny_bind (wpAny_pure (wpAny_bind fin))
          | exact wpAny_bind fin
      | @cons x n c i ts b₀ suite np pos' hds2 l2 hc hi hln hsu r ih =>
        intro w
        obtain ⟨b, hb1, hyes, hno⟩ := w
        have hloc : Loc X.env.scope n := .inl hln
        refine wpAny_handleBy_cons (codeAny_handlers_test ?_) (by intro q; cases q)
        have LT : PySem.W.Looks (model X.prog X.w) h3 (typeOf (.ref a)) cls := fun A Q E s k q => wpAny_typeOf_ref (k _ _ he3) (by rw [hz3.1]; exact q)
        have LM := PySem.W.exm_one (M := model X.prog X.w) (J3.kIn) LT hb1
        have test : ∀ {Q : Value → Shared → Prop} {E : Value → Shared → Prop}, Q c { s' with heap := h3 } → wpAny (model X.prog X.w) (X.A.mark (some (.ref a))) (eval (.Name x np) X.env) Q E { s' with heap := h3 } := fun {Q E} q => by
          obtain ⟨hg, hdbg, hm | ⟨hm, hv, hnn⟩⟩ := hc
          · exact ld_glob (X := X.suite a ((a, oe3) :: (X.pn ++ pins))) S3 hg hm q hdbg
          · exact ld_blt (X := X.suite a ((a, oe3) :: (X.pn ++ pins))) S3 hg hm hv q hnn hdbg
        refine test (LM.here ?_)
        cases b with
        | true =>
          refine codeAny_handlers_suite_as ?_
          refine HandSPX.lands_againZ fl3 fun h4 fl4 up4 => ?_
          have J4 : Inv X pins σ' H' { s' with heap := h4 } := J.landed nb fl4.1 ((up.trans up3).trans up4) os ag
          obtain ⟨oe4, vs4, he4, hz4, hd4⟩ := fl4.there
          have S4 := J4.suite he4 hd4 na nL nF
          refine store_ok (X := X.suite a ((a, oe4) :: (X.pn ++ pins))) (v := .ref a) S4 hN hi hloc rfl (fun s5 S5 => ?_) (.inr hln)
          refine wpAny_mono ((hsu a oe4 cls d (X.pn ++ pins) hz4 ⟨_, hd4⟩).run [] s5 _ H' _ S5 (hyes rfl a na)) (fun f s6 hsp => ?_) (fun _ _ z => False.elim z)
          have end_ : ∀ {σ6 : St} {H6 : Hp} {Q : Shared → Prop}, Inv (X.suite a ((a, oe4) :: (X.pn ++ pins))) [] σ6 H6 s6 → (∀ s7, Inv X pins (σ6.set i none) H6 s7 → Q s7) →
              wpAny (model X.prog X.w) X.A (do bindName X.env n .none; unbindBehindTheSuite X.env n pos') (fun _ s7 => Q s7) X.xe s6 := fun {σ6 H6 Q} S6 hq => gone_ok (S6.unsuite ok) hN hi hln hq
          cases f with
          | next =>
            obtain ⟨σ6, H6, S6, q6⟩ := hsp
            exact end_ S6 fun s7 J7 => ⟨_, _, J7, q6⟩
          | brk =>
            obtain ⟨σ6, H6, S6, q6⟩ := hsp
            exact end_ S6 fun s7 J7 => ⟨_, _, J7, q6⟩
          | cont =>
            obtain ⟨σ6, H6, S6, q6⟩ := hsp
            exact end_ S6 fun s7 J7 => ⟨_, _, J7, q6⟩
          | ret u =>
            obtain ⟨v6, σ6, H6, S6, r6, q6⟩ := hsp
            exact end_ S6 fun s7 J7 => ⟨_, _, _, J7, r6, q6⟩
        | false =>
          show wpAny _ X.A (handleBy (.ref a) X.env hds2) _ _ _
          exact ih (hno rfl)
      | @cons0 x c ts b₀ suite np pos' hds2 l2 hc hsu r ih =>
        intro w
        obtain ⟨b, hb1, hyes, hno⟩ := w
        refine wpAny_handleBy_cons (codeAny_handlers_test ?_) (by intro q; cases q)
        have LT : PySem.W.Looks (model X.prog X.w) h3 (typeOf (.ref a)) cls := fun A Q E s k q => wpAny_typeOf_ref (k _ _ he3) (by rw [hz3.1]; exact q)
        have LM := PySem.W.exm_one (M := model X.prog X.w) (J3.kIn) LT hb1
        have test : ∀ {Q : Value → Shared → Prop} {E : Value → Shared → Prop}, Q c { s' with heap := h3 } → wpAny (model X.prog X.w) (X.A.mark (some (.ref a))) (eval (.Name x np) X.env) Q E { s' with heap := h3 } := fun {Q E} q => by
          obtain ⟨hg, hdbg, hm | ⟨hm, hv, hnn⟩⟩ := hc
          · exact ld_glob (X := X.suite a ((a, oe3) :: (X.pn ++ pins))) S3 hg hm q hdbg
          · exact ld_blt (X := X.suite a ((a, oe3) :: (X.pn ++ pins))) S3 hg hm hv q hnn hdbg
        refine test (LM.here ?_)
        cases b with
        | true =>
          refine codeAny_handlers_suite ?_
          refine HandSPX.lands_againZ fl3 fun h4 fl4 up4 => ?_
          have J4 : Inv X pins σ' H' { s' with heap := h4 } := J.landed nb fl4.1 ((up.trans up3).trans up4) os ag
          obtain ⟨oe4, vs4, he4, hz4, hd4⟩ := fl4.there
          have S4 := J4.suite he4 hd4 na nL nF
          refine wpAny_mono ((hsu a oe4 cls d (X.pn ++ pins) hz4 ⟨_, hd4⟩).run [] _ _ H' _ S4 (hyes rfl a na)) (fun f s6 hsp => ?_) (fun _ _ z => False.elim z)
          cases f with
          | next =>
            obtain ⟨σ6, H6, S6, q6⟩ := hsp
            exact ⟨_, _, S6.unsuite ok, q6⟩
          | brk =>
            obtain ⟨σ6, H6, S6, q6⟩ := hsp
            exact ⟨_, _, S6.unsuite ok, q6⟩
          | cont =>
            obtain ⟨σ6, H6, S6, q6⟩ := hsp
            exact ⟨_, _, S6.unsuite ok, q6⟩
          | ret u =>
            obtain ⟨v6, σ6, H6, S6, r6, q6⟩ := hsp
            exact ⟨_, _, _, S6.unsuite ok, r6, q6⟩
        | false =>
          show wpAny _ X.A (handleBy (.ref a) X.env hds2) _ _ _
          exact ih (hno rfl)
    exact go hh w
  · cases f with
    | next =>
      obtain ⟨σ', H', J', q⟩ := hsp
      exact wpAny_execs_nil ⟨σ', H', J'.ofTry ok, q⟩
    | brk =>
      obtain ⟨σ', H', J', q⟩ := hsp
      exact ⟨σ', H', J'.ofTry ok, q⟩
    | cont =>
      obtain ⟨σ', H', J', q⟩ := hsp
      exact ⟨σ', H', J'.ofTry ok, q⟩
    | ret u =>
      obtain ⟨v, σ', H', J', r, q⟩ := hsp
      exact ⟨v, σ', H', J'.ofTry ok, r, q⟩
end
theorem op_isB {X : Cx} : OpR X (compareOp .Is) (fun x y H Q => ∃ a b, x = .bl a ∧ y = .bl b ∧ Q (.bl (decide (a = b))) H) := by
  intro pins s σ H x y v u Q I rx ry h
  obtain ⟨a, b, rfl, rfl, q⟩ := h
  cases (show v = Value.bool a from rx)
  cases (show u = Value.bool b from ry)
  refine wpAny_is_plain rfl (fin_bl I q ?_)
  cases a <;> cases b <;> rfl
theorem op_notB {X : Cx} : OpR X (compareOp .IsNot) (fun x y H Q => ∃ a b, x = .bl a ∧ y = .bl b ∧ Q (.bl (!decide (a = b))) H) := by
  intro pins s σ H x y v u Q I rx ry h
  obtain ⟨a, b, rfl, rfl, q⟩ := h
  cases (show v = Value.bool a from rx)
  cases (show u = Value.bool b from ry)
  refine wpAny_isNot_plain rfl (fin_bl I q ?_)
  cases a <;> cases b <;> rfl
end L2
namespace Vs
open PySem PySem.Spec PyProof.Rows L2
/-- is False, is True -/
def cIsB : D → D → Option Bool
  | .bl a, .bl b => some (decide (a = b))
  | _, _ => none
def cNotB : D → D → Option Bool
  | .bl a, .bl b => some (!decide (a = b))
  | _, _ => none
theorem s_isB {κ : Kx} : OpB κ (fun x y H Q => ∃ a b, x = .bl a ∧ y = .bl b ∧ Q (.bl (decide (a = b))) H) cIsB := fun x y dx dy z H G Q e s rx ry q => by
  cases dx <;> cases dy <;> try (cases e; done)
  cases e
  exact ⟨_, _, rx.bl, ry.bl, q⟩
theorem s_notB {κ : Kx} : OpB κ (fun x y H Q => ∃ a b, x = .bl a ∧ y = .bl b ∧ Q (.bl (!decide (a = b))) H) cNotB := fun x y dx dy z H G Q e s rx ry q => by
  cases dx <;> cases dy <;> try (cases e; done)
  cases e
  exact ⟨_, _, rx.bl, ry.bl, q⟩
noncomputable def hdl (xs : Nat → Nat → Option Bool) (x : Ex) (e1 : En) : List (Nat × Option Nat × (Xo → Ss)) → Option SO
  | [] => some (.ex x e1)
  | (h, none, ms) :: r => match xs x.c h with
    | some true => allEq fun o => noX (ms o e1)
    | some false => hdl xs x e1 r
    | none => none
  | (h, some i, ms) :: r => match xs x.c h with
    | some true => if i < e1.length then allEq fun o => aftr i (ms o (e1.set i (.sh (.xn o x)))) else none
    | some false => hdl xs x e1 r
    | none => none
/-- except X as n, except Y as m -/
noncomputable def sTryM (xs : Nat → Nat → Option Bool) (l : List (Nat × Option Nat × (Xo → Ss))) (body : Ss) : Ss := fun e => match body e with
  | some (.ex x e1) => hdl xs x e1 l
  | o => o
inductive HdsM (X : Cx) (κ : Kx) (xs : Nat → Nat → Option Bool) : List ExceptHandler → List (Nat × Option Nat × (Xo → Ss)) → Prop
  | nil : HdsM X κ xs [] []
  | cons {x n : Str} {h i : Nat} {ms : Xo → Ss} {b₀ : Stmt} {suite : List Stmt} {np pos' : Pos} {hds : List ExceptHandler} {l : List (Nat × Option Nat × (Xo → Ss))} (hi : X.N[i]? = some n) (hln : X.env.kindOf n = some .local) (hc : Names X x (.ref (κ.xc h))) (hx : XsOk κ xs h)
      (hsu : ∀ (a : Addr) (oe : Obj) (cls : Value) (d : Option Addr) (pn : List (Addr × Obj)), Zc cls d oe → (∃ vs, oe.data = .fields vs) → PSs (X.suite a ((a, oe) :: pn)) (b₀ :: suite) (tS κ WF (ms ⟨a, cls, d⟩))) (r : HdsM X κ xs hds l) :
      HdsM X κ xs (.ExceptHandler (some (.Name x np)) (some n) (b₀ :: suite) pos' :: hds) ((h, some i, ms) :: l)
  | cons0 {x : Str} {h : Nat} {ms : Xo → Ss} {b₀ : Stmt} {suite : List Stmt} {np pos' : Pos} {hds : List ExceptHandler} {l : List (Nat × Option Nat × (Xo → Ss))} (hc : Names X x (.ref (κ.xc h))) (hx : XsOk κ xs h)
      (hsu : ∀ (a : Addr) (oe : Obj) (cls : Value) (d : Option Addr) (pn : List (Addr × Obj)), Zc cls d oe → (∃ vs, oe.data = .fields vs) → PSs (X.suite a ((a, oe) :: pn)) (b₀ :: suite) (tS κ WF (ms ⟨a, cls, d⟩))) (r : HdsM X κ xs hds l) :
      HdsM X κ xs (.ExceptHandler (some (.Name x np)) none (b₀ :: suite) pos' :: hds) ((h, none, ms) :: l)
section
variable {X : Cx} {κ : Kx} {W : WX} {xs : Nat → Nat → Option Bool} {body : List Stmt} {h₀ : ExceptHandler} {hds : List ExceptHandler} {l : List (Nat × Option Nat × (Xo → Ss))} {pos : Pos} {mb : Ss}
def toT (κ : Kx) (l : List (Nat × Option Nat × (Xo → Ss))) : List (Value × Option Nat × (Addr → Value → Option Addr → TS)) := l.map fun p => (.ref (κ.xc p.1), p.2.1, fun a cls d => tS κ WF (p.2.2 ⟨a, cls, d⟩))
theorem HdsM.as {hds : List ExceptHandler} {l : List (Nat × Option Nat × (Xo → Ss))} (h : HdsM X κ xs hds l) : HdsAs X hds (toT κ l) := by
  induction h with
  | nil => exact .nil
  | cons hi hln hc hx hsu r ih => exact .cons hc hi hln hsu ih
  | cons0 hc hx hsu r ih => exact .cons0 hc hsu ih
theorem s_tryM (hs : X.stack = X.env :: X.outer) (hf : X.env.frame = some X.env.locals) (hN : X.N.Nodup) (hK : X.K = κ.K) (tk : Takes X W)
    (hb : ∀ (W : WX) (pn : List (Addr × Obj)) (xe : Value → Shared → Prop), Takes (X.tr pn xe) W → PassesOwn (model X.prog X.w) X.A X.env xe → PSs (X.tr pn xe) body (tS κ W mb))
    (hh : HdsM X κ xs (h₀ :: hds) l) : PS X (.Try body (h₀ :: hds) [] [] pos) (tS κ W (sTryM xs l mb)) :=
  PS.imp (ps_try_many_as (tb := fun W => tS κ W mb) hs hf hN tk hb hh.as) fun D0 σ H ⟨G, env, r, q⟩ => by
    refine ⟨G, env, r, ?_⟩
    unfold sTryM at q
    cases w : mb env with
    | none => rw [w] at q; exact q
    | some o => cases o with
      | nx e => rw [w] at q; exact q
      | bk e => rw [w] at q; exact q
      | ct e => rw [w] at q; exact q
      | rt e => rw [w] at q; exact q
      | rv e e2 => rw [w] at q; exact q
      | ex y e1 =>
        rw [w] at q
        dsimp only at q
        intro c d σ1 H1 G1 r1 xr f1
        have go : ∀ {hds' : List ExceptHandler} {l' : List (Nat × Option Nat × (Xo → Ss))}, HdsM X κ xs hds' l' → SPost κ W σ H G env (hdl xs y e1 l') D0 → wManyAs X.K W D0 (toT κ l') c d σ1 H1 := by
          intro hds' l' hm
          induction hm with
          | nil => intro q; exact q c d σ1 H1 G1 r1 xr f1
          | @cons x n h i ms b₀ suite np pos' hds2 l2 hi hln hc hx hsu rr ih =>
            intro q
            unfold hdl at q
            cases z : xs y.c h with
            | none => rw [z] at q; exact q.elim
            | some b =>
              rw [z] at q
              refine ⟨b, ?_, fun hb a ha => ?_, fun hb => ?_⟩
              · rw [xr.1, hK]
                exact hx _ _ z
              · subst hb
                dsimp only at q
                by_cases hl : i < e1.length
                · rw [if_pos hl] at q
                  obtain ⟨G2, _, r2, f2⟩ := rep_sh (v := .ref a) (d := .xn ⟨a, c, d⟩ y) r1 hl (.xn (o := ⟨a, c, d⟩) xr)
                  refine ⟨G2, _, r2, ?_⟩
                  cases z2 : allEq fun o => aftr i (ms o (e1.set i (.sh (.xn o y)))) with
                  | none => rw [z2] at q; exact q.elim
                  | some u =>
                    rw [z2] at q
                    have e2 := allEq_of z2 ⟨a, c, d⟩
                    rw [← e2] at q
                    exact SPost.aftr (SPost.shift (f1.trans f2) q)
                · rw [if_neg hl] at q; exact q.elim
              · subst hb
                exact ih q
          | @cons0 x h ms b₀ suite np pos' hds2 l2 hc hx hsu rr ih =>
            intro q
            unfold hdl at q
            cases z : xs y.c h with
            | none => rw [z] at q; exact q.elim
            | some b =>
              rw [z] at q
              refine ⟨b, ?_, fun hb a ha => ?_, fun hb => ?_⟩
              · rw [xr.1, hK]
                exact hx _ _ z
              · subst hb
                dsimp only at q
                refine ⟨G1, _, r1, ?_⟩
                cases z2 : allEq fun o => noX (ms o e1) with
                | none => rw [z2] at q; exact q.elim
                | some u =>
                  rw [z2] at q
                  have e2 := allEq_of z2 ⟨a, c, d⟩
                  rw [← e2] at q
                  exact SPost.noX (SPost.shift f1 q)
              · subst hb
                exact ih q
        exact go hh q
end
end Vs

set_option Elab.async false
set_option linter.all false
set_option maxRecDepth 100000
set_option maxHeartbeats 2000000
/-! Vb: a caught error handed to a def that asks of what class it is. -/
namespace Vs
open PySem PySem.Spec PyProof.Rows L2
section
variable {P : Program} {w : World} {K : PySem.W.Frag} {mg : Str → Option Value} {base : Heap} {CX : CXT} {k : Nat}
/-- what a def promises where p's object stands in the state -/
structure FnP (P : Program) (w : World) (K : PySem.W.Frag) (mg : Str → Option Value) (base : Heap) (CX : CXT) (k : Nat) (f : Addr) (fd : FuncData) (ps : List Str) (p : Addr × Obj) (sp : Sp) : Prop where
  len : ∀ vs H Q E, sp vs H Q E → vs.length = ps.length
  run : ∀ (A : Around) (outer : List Env) (s : Shared) (H : Hp) (args : Args) (us : List Value) (vs : List V) (Q : VK) (E : XK), L2H.RoomH k A → L2H.PinOk outer H s p → Env0 P w K mg base A outer s H → BindsTo s fd args (ps.zip us) → Vals vs us → sp vs H Q E →
    codeAny (model P w) A (.call (.ref f) args) (CR CX outer P w H s Q E) s
theorem fn_ofP {f : Addr} {name qual : Str} {params : Arguments} {body : List Stmt} {scope : Scope} {dV kV doc pm cdv ct oc : Value} {an od : Option Addr}
    {osl : Array (Option Value)} {N ps : List Str} {sp : Sp} {p : Addr × Obj} (lk : K.lookup f = some ⟨oc, od, .func (PySem.W.fnOf name qual params body scope dV kV doc pm an cdv ct), osl⟩) (hcd : PySem.W.codeIn K cdv qual = true) (S : FnScope N ps scope)
    (len : ∀ vs H Q E, sp vs H Q E → vs.length = ps.length)
    (hbody : ∀ (A : Around) (outer : List Env) (s : Shared) (H : Hp) (vs : List V) (Q : VK) (E : XK), L2H.RoomH k (A.deeper (envOfC qual scope s.heap.objs.size f cdv)) → sp vs H Q E →
      ∃ t, PSs (L2H.cxH CX P w K mg base N qual scope f cdv A outer s H E p) body t ∧ t { nx := fun _ H' => Q .non H', rt := Q } (L2.start N vs) H) :
    FnP P w K mg base CX (k + 1) f (PySem.W.fnOf name qual params body scope dV kV doc pm an cdv ct) ps p sp := by
  refine ⟨len, fun A outer s H args us vs Q E hr hpin e0 hb r hsp => ?_⟩
  have hl := len _ _ _ _ hsp
  have KX : K.In s.heap := e0.mod.kin.keeps fun b o e => (e0.bs b o e).1
  have lim : s.heap.NoLimit := e0.mod.nolimit.keeps fun b o e => (e0.bs b o e).1
  have hkind : ∀ y ∈ ps.zip us, scope.names.lookup y.1 = some .local ∨ (scope.names.lookup y.1 = some .cell ∧ ((cellsFrom (s.heap.objs.size + 1) scope.names []).lookup y.1).isSome = true) := fun ⟨n, v⟩ hy => by
    rcases S.par n (List.of_mem_zip hy).1 with q | q
    · exact .inl q
    · exact .inr ⟨q, PySem.W.cellsFrom_some _ _ _ (.inl q)⟩
  refine codeAny_call_function hr.depth (KX _ _ lk) rfl S.co S.gen rfl (PySem.W.codeRec_of KX hcd) (hb _ _ _ _ ?_)
  refine wpAny_newFunctionEnv_cells S.kind hkind fun env he s1 x => ?_
  subst he
  refine ⟨lim.keeps x.toInCall.keep, codeAny_func ?_⟩
  obtain ⟨t, ht, hq⟩ := hbody A outer s H vs Q E (hr.deeper _) hsp
  have I : Inv (L2H.cxH CX P w K mg base N qual scope f cdv A outer s H E p) [] (L2.start N vs) H s1 := L2H.inv_startH S hpin e0 hl r x
  refine wpAny_mono (ht.run [] s1 (L2.start N vs) H _ I hq) (fun fl s' hs => ?_) fun e s' hs => hs
  have fin : ∀ {σ' : L2.St} {H' : Hp} {v : V} {u : Value}, Inv (L2H.cxH CX P w K mg base N qual scope f cdv A outer s H E p) [] σ' H' s' → RelV v u → Q v H' → CE outer P w H s Q u s' :=
    fun {σ' H' v u} J rv q => ⟨v, H', J.os, J.bare, J.base, J.hok, rv, q⟩
  cases fl with
  | ret u =>
    obtain ⟨v, σ', H', J, rv, q⟩ := hs
    exact fin J rv q
  | next =>
    obtain ⟨σ', H', J, q⟩ := hs
    exact fin (v := V.non) (u := Value.none) J rfl q
  | brk =>
    obtain ⟨_, _, _, q⟩ := hs
    exact False.elim q
  | cont =>
    obtain ⟨_, _, _, q⟩ := hs
    exact False.elim q
theorem fun_okP {x qual : Str} {st : Stmt} {f : Addr} {fd : FuncData} {N ps : List Str} {sp : Sp} {p : Addr × Obj} (F : Fun K x qual st f fd) (S : FnScope N ps (defScope st)) (len : ∀ vs H Q E, sp vs H Q E → vs.length = ps.length)
    (hbody : ∀ (cdv : Value) (A : Around) (outer : List Env) (s : Shared) (H : Hp) (vs : List V) (Q : VK) (E : XK), L2H.RoomH k (A.deeper (envOfC qual (defScope st) s.heap.objs.size f cdv)) → sp vs H Q E →
      ∃ t, PSs (L2H.cxH (L2.CX P w) P w K mg base N qual (defScope st) f cdv A outer s H E p) (defBody st) t ∧ t { nx := fun _ H' => Q .non H', rt := Q } (L2.start N vs) H) : FnP P w K mg base (L2.CX P w) (k + 1) f fd ps p sp := by
  obtain ⟨oc, od, kV, doc, pm, an, cdv, ct, osl, rfl, lk, hcd⟩ := F.ex
  exact fn_ofP lk hcd S len fun A outer s H vs Q E hr hsp => hbody cdv A outer s H vs Q E hr hsp
end
section
variable {X : Cx} {CX : CXT} {k : Nat} {f : Addr} {fd : FuncData} {ps : List Str} {sp : Sp} {E : L2.St → XK} {x : Str} {q pos : Pos} {e : Expr} {es : List Expr} {t : TA} {p : Addr × Obj}
theorem run_fnP {pins : List (Addr × Obj)} {σ : L2.St} {H : Hp} {s : Shared} {Q : VK} {us : List Value} {vs : List V} (F : FnP X.prog X.w X.K X.mg X.base CX k f fd ps p sp) (hr : L2H.RoomH k X.A) (hp : p ∈ X.pn) (hb : Binds X.K fd ps []) (hx : PassesAt CX X σ (E σ))
    (I : Inv X pins σ H s) (r : Vals vs us) (h : sp vs H Q (E σ)) : wpAny (model X.prog X.w) X.A (call (.ref f) us) (EP X pins σ Q) X.xe s := by
  have hl : us.length = ps.length := by rw [← r.length]; exact F.len _ _ _ _ h
  have b := hb s us I.kIn (by rw [List.append_nil]; exact hl)
  rw [List.append_nil] at b
  have P1 := I.pin p (List.mem_append_left _ hp)
  have hpin : L2H.PinOk X.stack H s p := ⟨P1.1, P1.2.1, fun hm => (List.mem_cons.mp (I.stkSub p.1 hm)).elim P1.2.2.1 P1.2.2.2.1, P1.2.2.2.2⟩
  refine wpAny_call (codeAny_mono (F.run X.A X.stack s H ⟨us, []⟩ us vs Q (E σ) hr hpin I.env0 b r h) fun r s' hq => ?_)
  cases r with
  | error e => exact hx pins H s e s' I hq
  | ok fl =>
    cases fl with
    | ret u => exact I.after hq
    | next => exact False.elim hq
    | brk => exact False.elim hq
    | cont => exact False.elim hq
theorem pe_callP (F : FnP X.prog X.w X.K X.mg X.base CX k f fd ps p sp) (hr : L2H.RoomH k X.A) (hp : p ∈ X.pn) (hg : Gl X x) (hm : X.mg x = some (.ref f)) (hk : PySem.W.keepIn X.K (.ref f) = true) (hb : Binds X.K fd ps []) (hx : ∀ σ, PassesAt CX X σ (E σ))
    (ha : PA X (e :: es) t) (hdb : (x == ("__debug__" : Str)) = false := by decide) (he : starEach (e :: es) X.env = (false, eval e X.env) :: starEach es X.env := by rfl) (hpl : (backTo pos (starEach es X.env)).any (·.1) = false := by rfl) :
    PE X (.Call (.Name x q) (e :: es) [] pos) (tCallS sp E t) := by
  refine ⟨fun pins s σ H Q I h => ?_⟩
  refine wpAny_Call_Name_kw (ld_glob I hg hm ?_ hdb)
  refine PySem.W.callWith_K (h₀ := X.base) I.ok.mod.kin hk (thn (ha.run pos pins s σ H _ I h) fun us s1 ⟨vs, H1, I1, r, q⟩ => ⟨I1.kIn, ?_⟩) he hpl
  exact run_fnP F hr hp hb (hx σ) I1 r q
end
/-- .. as the written part tells it: for every error caught -/
structure VFnP (P : Program) (w : World) (κ : Kx) (mg : Str → Option Value) (base : Heap) (x : Str) (k : Nat) (ms : List Bool) (g : Xo → FSem) : Prop where
  ex : ∃ (f : Addr) (fd : FuncData) (ps : List Str), mg x = some (.ref f) ∧ PySem.W.keepIn κ.K (.ref f) = true ∧ (∀ (a : Addr) (oe : Obj) (cls : Value) (d : Option Addr), Zc cls d oe → (∃ vs, oe.data = .fields vs) → FnP P w κ.K mg base (L2.CX P w) k f fd ps (a, oe) (spV κ ms (g ⟨a, cls, d⟩))) ∧ Binds κ.K fd ps []
section
variable {X : Cx} {κ : Kx} {W : WX} {e : Expr} {es : List Expr} {ms : List Bool} {g : Xo → FSem} {mr : Sm (List D)} {k : Nat} {x : Str} {p pos : Pos} {a : Addr} {oe : Obj} {cls : Value} {d : Option Addr} {pn : List (Addr × Obj)}
theorem v_callP (F : VFnP X.prog X.w κ X.mg X.base x k ms g) (hz : Zc cls d oe) (hf : ∃ vs, oe.data = .fields vs) (hK : X.K = κ.K) (hr : Room k X.A) (tk : Takes (X.suite a ((a, oe) :: pn)) W) (hg : Gl X x) (ha : PA (X.suite a ((a, oe) :: pn)) (e :: es) (tX κ W (RA κ ms) mr)) (hdb : (x == ("__debug__" : Str)) = false := by decide)
    (he : starEach (e :: es) X.env = (false, eval e X.env) :: starEach es X.env := by rfl) (hpl : (backTo pos (starEach es X.env)).any (·.1) = false := by rfl) : PE (X.suite a ((a, oe) :: pn)) (.Call (.Name x p) (e :: es) [] pos) (tX κ W (RV κ) (fCall (g ⟨a, cls, d⟩) mr)) := by
  obtain ⟨f, fd, ps, hm, hk, F1, hb⟩ := F.ex
  have F1 := F1 a oe cls d hz hf
  rw [← hK] at hk F1 hb
  refine PE.imp (pe_callP (X := X.suite a ((a, oe) :: pn)) F1 ⟨hr.dp, hr.un⟩ List.mem_cons_self hg hm hk hb (fun σ => passAt tk σ) ha hdb he hpl) fun σ H Q ⟨G, env, r, q⟩ => ?_
  exact bind_post r q fun d e1 vs H1 G1 em r1 rv s1 f1 q1 => call_post r1 rv q1
end
section
variable {X : Cx} {κ : Kx} {W : WX} {x : Str} {np : Pos} {i : Nat}
theorem inst_xp {a : Addr} {oe : Obj} {cls : Value} {d : Option Addr} {pins : List (Addr × Obj)} {σ : L2.St} {H : Hp} {s : Shared} {y : Ex} (hp : (a, oe) ∈ X.pn) (hK : X.K = κ.K) (hB : IsB κ.K) (hz : Zc cls d oe) (hf : ∃ vs, oe.data = .fields vs) (I : Inv X pins σ H s) (xr : XR κ H y cls d) (ic : IsC κ.K (κ.xc y.c)) :
    ∃ P : Heap → Prop, PySem.W.KitX κ.K (.ref a) cls P ∧ P s.heap := by
  obtain ⟨ha, _⟩ := I.pin (a, oe) (List.mem_append_left _ hp)
  obtain ⟨vs, hd⟩ := hf
  obtain ⟨ec, x2⟩ := xr
  subst ec
  have nc : PySem.W.notCls oe = true := by unfold PySem.W.notCls; rw [hd] <;> rfl
  have fin : ∀ {od : Option Obj}, PySem.W.InstAt s.heap a oe (κ.xc y.c) od → ∃ P : Heap → Prop, PySem.W.KitX κ.K (.ref a) (.ref (κ.xc y.c)) P ∧ P s.heap := fun {od} J =>
    ⟨_, PySem.W.kitx_exc ic.ic ic.ga ic.gg ic.sb ic.ha hB.hn hB.ht ic.mo, J⟩
  cases d with
  | none => exact fin (od := none) ⟨ha, hz.1, nc, by rw [hz.2]; trivial⟩
  | some dd =>
    split at x2
    · cases x2
    · obtain ⟨b, eb, hb⟩ := x2
      cases eb
      have hx := I.hok dd _ hb
      obtain ⟨mA, hns, hr⟩ := hx
      obtain ⟨od, ho, hl⟩ := lookIn_ns hns
      exact fin (od := some od) ⟨ha, hz.1, nc, by rw [hz.2]; exact ho⟩
    · exact x2.elim
theorem call_isXp {a : Addr} {oe : Obj} {cls : Value} {d : Option Addr} (hp : (a, oe) ∈ X.pn) (hK : X.K = κ.K) (hB : IsB κ.K) (hz : Zc cls d oe) (hf : ∃ vs, oe.data = .fields vs) : CallR X (.builtin "isinstance") (rIsX κ cls d a) := by
  intro pins s σ H xs us Q I r h
  obtain ⟨c, cv, b, y, rfl, k, xr, ic, e, q⟩ := h
  obtain ⟨u1, u2, rfl, r1, r2⟩ := vals2 r
  cases (show u1 = Value.ref a from r1)
  have e2 := k.eq r2
  subst e2
  obtain ⟨P, Z, p⟩ := inst_xp hp hK hB hz hf I xr ic
  have kin : κ.K.In s.heap := hK ▸ I.kIn
  exact PySem.W.kia_one Z kin p e (fun z => nomatch z) fun tk => ⟨.bl b, H, I.tok tk, rfl, q⟩
theorem v_isXp {a : Addr} {oe : Obj} {cls : Value} {d : Option Addr} {p p2 pos : Pos} {T : Str} {cV : V} {cv : Value} {t : Nat → Option Bool} (hp : (a, oe) ∈ X.pn) (hK : X.K = κ.K) (hB : IsB κ.K) (hk : KsOk κ [cv] t) (hz : Zc cls d oe) (hf : ∃ vs, oe.data = .fields vs) (hg : Gl X "isinstance") (hm : X.mg "isinstance" = none) (hcv : ClsV cV cv)
    (hT : PE X (.Name T p2) (tC cV)) (ho : PE X (.Name x np) (tVar i))
    (hv : bootBuiltins "isinstance" = some (.builtin "isinstance") := by decide +kernel) (hst : starEach [.Name x np, .Name T p2] X.env = [(false, eval (.Name x np) X.env), (false, eval (.Name T p2) X.env)] := by rfl) (hst2 : starEach [.Name T p2] X.env = [(false, eval (.Name T p2) X.env)] := by rfl) (hpl : (backTo pos (starEach [.Name T p2] X.env)).any (·.1) = false := by rfl) :
    PE X (.Call (.Name "isinstance" p) [.Name x np, .Name T p2] [] pos) (tX κ W (RP κ) (fXi t ⟨a, cls, d⟩ i)) :=
  PE.imp (pe_callB (call_isXp hp hK hB hz hf) hg hm hv (pa_cons ho (pa_cons hT pa_nil (by rw [hst2]; rfl)) (by rw [hst, hst2])) (by decide) (by decide) (by rw [hst, hst2]) hpl) fun σ H Q ⟨G, env, rp, q⟩ => by
    obtain ⟨y, b, h1, xr, e, q1⟩ := fxi_of rp q
    obtain ⟨ic, k1⟩ := hk _ _ e
    have k2 : PySem.W.kitOne κ.K (.ref (κ.xc y.c)) cv = some b := by
      unfold PySem.W.kitAny at k1
      split at k1
      · rename_i z; rw [z, ← k1]
      · rename_i z; unfold PySem.W.kitAny at k1; rw [z, ← k1]
      · cases k1
    exact ⟨.ref a, h1, cV, cv, b, y, rfl, hcv, xr, ic, by rw [show cls = .ref (κ.xc y.c) from xr.1]; exact k2, q1 _ H G rp (.bl b) (Grw.refl _) Fr.refl⟩
end
end Vs

set_option Elab.async false
set_option linter.all false
set_option maxRecDepth 100000
set_option maxHeartbeats 2000000
/-! Vc: tuples and lists that hold own lists; a thing of one's own given away for the time of one expression. -/
namespace Vs
open PySem PySem.Spec PyProof.Rows L2
/-- the own thing at slot i, taken out -/
def eO (i : Nat) : Sm Rs := fun env => match env[i]? with
  | some (.sh d) => some (.ok (.sh d) env)
  | some (.ow l) => some (.ok (.ow l) (env.set i .un))
  | some (.tr o) => some (.ok (.tr o) (env.set i .un))
  | _ => none
def aConsF (m : Sm Rs) (mr : Sm (List Fd)) : Sm (List Fd) := bnd m fun r => bnd mr fun fs e => match r.fd with
  | some f => some (.ok (f :: fs) e)
  | none => none
def aNilF : Sm (List Fd) := fun e => some (.ok [] e)
def RFA (κ : Kx) : Rl (List Fd) (List V) := fun _ N H G env vs fs => ∃ F, RFs κ H G vs fs F ∧ ∀ a, a ∈ F → Fre G env a ∧ N a
/-- a tuple, a list of things that may be own lists -/
def fSq (t : Bool) (m : Sm (List Fd)) : Sm Rs := bnd m fun fs e => if fs.length ≤ szl then some (.ok (.tr (.sq t fs)) e) else none
section
variable {X : Cx} {κ : Kx} {W : WX} {a : Expr} {es : List Expr} {pos : Pos} {ma : Sm Rs} {mr : Sm (List Fd)}
theorem take_out {σ : L2.St} {H : Hp} {G : Gh} {env : En} {i : Nat} {s : Sl} {o : O} {v : V} (r : Rep κ H G σ env) (e : env[i]? = some s) (t : s.th = some o) (hm : s.mut = true) (hv : σ[i]? = some (some v)) :
    Rep κ H ⟨G.g, (G.put i []).fp⟩ σ (env.set i .un) ∧ Fr H G σ env H ⟨G.g, (G.put i []).fp⟩ σ (env.set i .un) ∧ ∀ b, b ∈ G.fp i → Fre ⟨G.g, (G.put i []).fp⟩ (env.set i .un) b ∧ Nw H G env b := by
  have hi : i < env.length := (List.getElem?_eq_some_iff.mp e).1
  have me : ∀ b, b ∈ G.fp i → Own G env i b := fun b m => ⟨s, o, e, t, m⟩
  have re := r.re (s := .un) (F := []) (H' := H) (g' := G.g) (x := some v) hi r.sub (Same.refl _) rfl (fun _ _ _ _ _ _ _ h => h) (fun j b w ow => (r.own ow).2) fun b m => by cases m
  have fr := Fr.re (σ := σ) (H := H) (H' := H) (g' := G.g) (s := .un) (F := []) (x := some v) (s0 := s) e (fun _ o h _ => ⟨o, h, fun _ => rfl⟩) (Same.refl _) (fun _ _ _ h _ => h) (fun q => by cases q) fun q => by cases q
  rw [set_same hv] at re fr
  refine ⟨re, fr, fun b m => ⟨fun j t' e' m' => ?_, fun _ _ => ⟨i, s, e, hm, m⟩⟩⟩
  have m2 : b ∈ (G.put i []).fp j := m'
  rcases set_look e' with ⟨rfl, _⟩ | ⟨w, e2⟩
  · rw [put_at] at m2; cases m2
  · rw [put_ne w] at m2
    exact w (r.inj i j b t' (me b m) e2 m2)
theorem v_own {i : Nat} {x : Str} (h : PE X (.Name x pos) (tVar i)) : PE X (.Name x pos) (tX κ W (RV κ) (eO i)) := PE.imp h fun σ H Q ⟨G, env, r, q⟩ => by
  unfold eO at q
  cases z : env[i]? with
  | none => rw [z] at q; exact q.elim
  | some s =>
    have rs := r.slot i s z
    rw [z] at q
    cases s with
    | sh d =>
      obtain ⟨_, v, h1, h2⟩ := rs
      exact ⟨v, h1, q v H G r h2 (Grw.refl _) Fr.refl⟩
    | ow l =>
      obtain ⟨v, h1, ro⟩ := rs
      obtain ⟨r1, f1, k⟩ := take_out r z rfl rfl h1
      obtain ⟨b, xs, rfl, h0, h2, h3, h4⟩ := ro.ls_inv
      have k1 := k b (by rw [h0]; exact List.mem_singleton_self b)
      exact ⟨_, h1, q _ H _ r1 ⟨b, xs, rfl, h2, h3, h4, k1.1, k1.2⟩ (Grw.refl _) f1⟩
    | tr o =>
      obtain ⟨v, h1, ro⟩ := rs
      obtain ⟨r1, f1, k⟩ := take_out r z rfl rfl h1
      exact ⟨_, h1, q _ H _ r1 ⟨_, ro, k⟩ (Grw.refl _) f1⟩
    | _ => exact q.elim
theorem a_nilF : PA X [] (tX κ W (RFA κ) aNilF) := PA.imp pa_nil fun σ H Q ⟨G, env, r, q⟩ => q [] H G r ⟨[], .nil, fun a m => by cases m⟩ (Grw.refl _) Fr.refl
theorem a_f (ha : PE X a (tX κ W (RV κ) ma)) (hr : PA X es (tX κ W (RFA κ) mr)) (hs : starEach (a :: es) X.env = (false, eval a X.env) :: starEach es X.env := by rfl) : PA X (a :: es) (tX κ W (RFA κ) (aConsF ma mr)) :=
  PA.imp (pa_cons ha hr hs) fun σ H Q ⟨G, env, r, q⟩ => by
    refine ⟨G, env, r, ?_⟩
    unfold aConsF bnd at q
    cases z : ma env with
    | none => rw [z] at q; exact q
    | some y => cases y with
      | ex x e1 => rw [z] at q; exact q
      | ok w e1 =>
        rw [z] at q
        intro v H1 G1 r1 rv s1 f1
        refine ⟨G1, e1, r1, ?_⟩
        dsimp only at q
        cases z2 : mr e1 with
        | none => rw [z2] at q; exact q
        | some y2 => cases y2 with
          | ex x e2 => rw [z2] at q; exact fun c d H' G' a b s f => q c d H' G' a b (s1.trans s) (f1.trans f)
          | ok fs e2 =>
            rw [z2] at q
            intro vs H2 G2 r2 rs s2 f2
            obtain ⟨F, rf, hF⟩ := rs
            cases w with
            | sh d => exact q (v :: vs) H2 G2 r2 ⟨F, .sh (Rp.mono f2.gk rv) rf, fun b m => ⟨(hF b m).1, (hF b m).2.shift f1⟩⟩ (s1.trans s2) (f1.trans f2)
            | tr o => exact q.elim
            | ow l =>
              obtain ⟨b, xs, rfl, h2, h3, h4, h5, h6⟩ := rv
              have nm : ¬ Mt G1 e1 b := fun ⟨i, s, z1, _, z3⟩ => h5 i s z1 z3
              refine q (.ref b :: vs) H2 G2 r2 ⟨b :: F, .ow (s2.at h2) (f2.gn b _ h2 h3 nm) (h4.mono f2.gk) (fun m => nm ((hF b m).2 _ h2)) rf, fun c m => ?_⟩ (s1.trans s2) (f1.trans f2)
              rcases List.mem_cons.mp m with rfl | m
              · exact ⟨fre_fr r2 f2 h2 h5, h6⟩
              · exact ⟨(hF c m).1, (hF c m).2.shift f1⟩
/-- a new thing that holds own lists -/
theorem new_sq {t : Bool} {σ : L2.St} {H H0 : Hp} {G G0 : Gh} {env env0 : En} {σ0 : L2.St} {vs : List V} {fs : List Fd} {F : List Addr} {p : Addr} (r : Rep κ H G σ env) (s0 : Grw H0 H) (f : Fr H0 G0 σ0 env0 H G σ env) (hp : H p = none) (rf : RFs κ H G vs fs F) (hF : ∀ a, a ∈ F → Fre G env a ∧ Nw H0 G0 env0 a) :
    Rep κ (upd H p (sqH t vs)) G σ env ∧ RV κ σ (Nw H0 G0 env0) (upd H p (sqH t vs)) G env (.ref p) (.tr (.sq t fs)) ∧ Grw H0 (upd H p (sqH t vs)) ∧ Fr H0 G0 σ0 env0 (upd H p (sqH t vs)) G σ env := by
  have gp := r.sub.none hp
  have np : p ∉ F := fun m => by
    obtain ⟨⟨o, h⟩, _⟩ := rf.own m
    rw [hp] at h; cases h
  refine ⟨r.grow (gr (same_new hp)) (Same.refl _) (r.sub.new hp) (fun _ => rfl) fun i a o => (r.own o).2, ⟨p :: F, .sq upd_same gp (rf.grow (Same.refl _) (fun a o _ h => same_new hp a o h) fun a m => (rf.own m).2) np, fun a m => ?_⟩, s0.trans (gr (same_new hp)), f.trans (fr_upd hp)⟩
  rcases List.mem_cons.mp m with rfl | m
  · refine ⟨r.fre hp, fun o e => ?_⟩
    obtain ⟨o', h', _⟩ := s0 _ _ e
    rw [hp] at h'
    cases h'
  · exact hF a m
theorem v_tupF {x1 : Nat} (h : PA X es (tX κ W (RFA κ) mr)) : PE X (.Tuple es x1 pos) (tX κ W (RV κ) (fSq true mr)) := PE.imp (pe_tup h) fun σ H Q ⟨G, env, r, q⟩ => by
  refine ⟨G, env, r, ?_⟩
  unfold fSq bnd at q
  cases z : mr env with
  | none => rw [z] at q; exact q
  | some y => cases y with
    | ex x e1 => rw [z] at q; exact q
    | ok fs e1 =>
      rw [z] at q
      intro vs H1 G1 r1 rv s1 f1
      obtain ⟨F, rf, hF⟩ := rv
      dsimp only at q
      by_cases hl : fs.length ≤ szl
      · rw [if_pos hl] at q
        refine ⟨by rw [rf.len]; exact szl_le hl, fun p hp => ?_⟩
        obtain ⟨k1, k2, k3, k4⟩ := new_sq (t := true) r1 s1 f1 hp rf hF
        exact q _ _ _ k1 k2 k3 k4
      · rw [if_neg hl] at q; exact q.elim
theorem v_lstF (h : PA X es (tX κ W (RFA κ) mr)) : PE X (.List es pos) (tX κ W (RV κ) (fSq false mr)) := PE.imp (pe_lst h) fun σ H Q ⟨G, env, r, q⟩ => by
  refine ⟨G, env, r, ?_⟩
  unfold fSq bnd at q
  cases z : mr env with
  | none => rw [z] at q; exact q
  | some y => cases y with
    | ex x e1 => rw [z] at q; exact q
    | ok fs e1 =>
      rw [z] at q
      intro vs H1 G1 r1 rv s1 f1
      obtain ⟨F, rf, hF⟩ := rv
      dsimp only at q
      by_cases hl : fs.length ≤ szl
      · rw [if_pos hl] at q
        refine ⟨by rw [rf.len]; exact szl_le hl, fun p hp => ?_⟩
        obtain ⟨k1, k2, k3, k4⟩ := new_sq (t := false) r1 s1 f1 hp rf hF
        exact q _ _ _ k1 k2 k3 k4
      · rw [if_neg hl] at q; exact q.elim
end
/-! ### several names, from an own tuple -/
def Fd.sl : Fd → Sl
  | .sh d => .sh d
  | .ow l => .ow l
def setFd : List Nat → List Fd → En → Option En
  | [], [], e => some e
  | i :: is, f :: fs, e => if i < e.length then setFd is fs (e.set i f.sl) else none
  | _, _, _ => none
def sTgF (is : List Nat) (m : Sm Rs) : Ss := sbnd m fun r e => match r with
  | .sh (.tup ds) => match setAll is ds e with
    | some e1 => some (.nx e1)
    | none => none
  | .tr (.sq true fs) => match setFd is fs e with
    | some e1 => some (.nx e1)
    | none => none
  | _ => none
section
variable {X : Cx} {κ : Kx} {W : WX}
theorem setFd_len : ∀ {is : List Nat} {fs : List Fd} {e e1 : En}, setFd is fs e = some e1 → fs.length = is.length
  | [], [], _, _, _ => rfl
  | [], _ :: _, _, _, h => by cases h
  | _ :: _, [], _, _, h => by cases h
  | i :: is, d :: ds, e, e1, h => by
    dsimp only [setFd] at h
    split at h
    · rw [List.length_cons, List.length_cons, setFd_len h]
    · cases h
theorem put_fd {σ : L2.St} {H H0 : Hp} {G G0 : Gh} {env env0 : En} {σ0 : L2.St} {v : V} (r : Rep κ H G σ env) {i : Nat} (hi : i < env.length) {F : List Addr} {s : Sl} (nf : s.fix = false) (hs : RSl κ H G (some (some v)) F s) (hF : ∀ a, a ∈ F → Fre G env a ∧ Nw H0 G0 env0 a) (f : Fr H0 G0 σ0 env0 H G σ env) :
    Rep κ H ⟨G.g, (G.put i F).fp⟩ (σ.set i (some v)) (env.set i s) ∧ Fr H0 G0 σ0 env0 H ⟨G.g, (G.put i F).fp⟩ (σ.set i (some v)) (env.set i s) := by
  have re := r.re (s := s) (F := F) (H' := H) (g' := G.g) (x := some v) hi r.sub (Same.refl _) hs (fun _ _ _ _ _ _ _ h => h) (fun j a w ow => (r.own ow).2) fun a m j t w e => (hF a m).1 j t e
  refine ⟨re, f.hk, f.gk, f.gn, fun a o e m => ?_, fun j t q e => ?_⟩
  · obtain ⟨j, t, e1, hm, m⟩ := m
    have m1 : a ∈ (G.put i F).fp j := m
    rcases set_look e1 with ⟨rfl, rfl⟩ | ⟨w, e2⟩
    · rw [put_at] at m1
      exact (hF a m1).2 o e
    · rw [put_ne w] at m1
      exact f.mm a o e ⟨j, t, e2, hm, m1⟩
  · rcases set_look e with ⟨rfl, rfl⟩ | ⟨w, e2⟩
    · rw [nf] at q; cases q
    · obtain ⟨s0, q1, q2, q3, q4⟩ := f.lk j t q e2
      refine ⟨s0, q1, q2, by rw [List.getElem?_set_ne w]; exact q3, fun y1 y2 => ?_⟩
      show (G.put i F).fp j = _
      rw [put_ne w]
      exact q4 y1 y2
theorem tgs_fd {H H0 : Hp} {G0 : Gh} {env0 : En} {σ0 : L2.St} {Q : L2.St → Hp → Prop} {e1 : En} : ∀ (is : List Nat) (vs : List V) (fs : List Fd) (F : List Addr) (σ : L2.St) (G : Gh) (env : En), setFd is fs env = some e1 → Rep κ H G σ env → Fr H0 G0 σ0 env0 H G σ env → RFs κ H G vs fs F → (∀ a, a ∈ F → Fre G env a ∧ Nw H0 G0 env0 a) →
    (∀ σ1 G1, Rep κ H G1 σ1 e1 → Fr H0 G0 σ0 env0 H G1 σ1 e1 → Q σ1 H) → gNames is vs σ H Q
  | [], vs, fs, F, σ, G, env, e, r, f, rf, hF, q => by
    cases rf with
    | nil => cases e; exact ⟨rfl, q σ G r f⟩
    | sh _ _ => cases e
    | ow _ _ _ _ _ => cases e
  | i :: is, vs, fs, F, σ, G, env, e, r, f, rf, hF, q => by
    cases rf with
    | nil => cases e
    | sh h t =>
      dsimp only [setFd] at e
      split at e
      · rename_i hi
        obtain ⟨r1, f1⟩ := put_fd (s := .sh _) r hi (F := []) rfl ⟨rfl, _, rfl, h⟩ (fun b m => by cases m) f
        refine ⟨_, _, rfl, tgs_fd is _ _ F _ _ _ e r1 f1 t (fun b m => ⟨fun j s e2 m2 => ?_, (hF b m).2⟩) q⟩
        have m2 : b ∈ (G.put i []).fp j := m2
        rcases set_look e2 with ⟨rfl, _⟩ | ⟨w, e3⟩
        · rw [put_at] at m2; cases m2
        · rw [put_ne w] at m2; exact (hF b m).1 j s e3 m2
      · cases e
    | @ow a xs l vs fs F h1 h2 h3 h4 t =>
      dsimp only [setFd] at e
      split at e
      · rename_i hi
        obtain ⟨r1, f1⟩ := put_fd (s := .ow l) r hi (F := [a]) rfl ⟨_, rfl, .ls h1 h2 h3⟩ (fun b m => by rw [List.mem_singleton.mp m]; exact hF a List.mem_cons_self) f
        refine ⟨_, _, rfl, tgs_fd is _ _ F _ _ _ e r1 f1 t (fun b m => ⟨fun j s e2 m2 => ?_, (hF b (List.mem_cons_of_mem _ m)).2⟩) q⟩
        have m2 : b ∈ (G.put i [a]).fp j := m2
        rcases set_look e2 with ⟨rfl, _⟩ | ⟨w, e3⟩
        · rw [put_at] at m2
          rw [List.mem_singleton.mp m2] at m
          exact h4 m
        · rw [put_ne w] at m2; exact (hF b (List.mem_cons_of_mem _ m)).1 j s e3 m2
      · cases e
theorem s_tgF {tg e : Expr} {is : List Nat} {n : Nat} {m : Sm Rs} {pos : Pos} (hn : n = is.length) (hg : PG X tg (gTup κ.K n (gNames is))) (he : PE X e (tI κ W (RV κ) m)) (hs : swapsWithSole [tg] e pos.line X.env = pure false := by rfl) (hw : swappedStores [tg] e X.env = pure none := by rfl) (h1 : List.map (fun x => x.snd) (assignEach [tg] X.env) = [assign tg X.env] := by rfl) :
    PS X (.Assign [tg] e pos) (tS κ W (sTgF is m)) := PS.imp (ps_asg he hg hs hw h1) fun D σ H ⟨G, env, r, q⟩ => by
  subst hn
  refine ⟨G, env, r, ?_⟩
  unfold sTgF sbnd at q
  cases w : m env with
  | none => rw [w] at q; exact q
  | some y => cases y with
    | ex x e1 => rw [w] at q; exact fun c d H' G' a b g => q c d σ H' G' a b g
    | ok z e1 =>
      rw [w] at q
      intro v H1 G1 r1 rv f1
      dsimp only at q
      cases z with
      | ow l => exact q.elim
      | sh d =>
        cases d with
        | tup ds =>
          dsimp only at q
          cases z : setAll is ds e1 with
          | none => rw [z] at q; exact q.elim
          | some e2 =>
            rw [z] at q
            exact tg_tup (κ := κ) is rfl v (.tup ds) σ H1 G1 e1 e2 _ z r1 rv fun σ1 G2 r2 f2 => q σ1 H1 G2 r2 (f1.trans f2)
        | _ => exact q.elim
      | tr o =>
        cases o with
        | sq t fs =>
          cases t with
          | false => exact q.elim
          | true =>
            dsimp only at q
            cases z : setFd is fs e1 with
            | none => rw [z] at q; exact q.elim
            | some e2 =>
              rw [z] at q
              obtain ⟨F, ro, hF⟩ := rv
              cases ro with
              | @sq a _ xs _ F g1 g2 g3 g4 =>
                exact ⟨a, xs, rfl, SqT.of g1, by rw [g3.len, setFd_len z], tgs_fd is xs fs F σ G1 e1 z r1 f1 g3 (fun b m => hF b (List.mem_cons_of_mem _ m)) fun σ1 G2 r2 f2 => q σ1 H1 G2 r2 f2⟩
        | _ => exact q.elim
end
/-! ### given away for the time of one expression -/
def D.atm : D → Bool
  | .non => true
  | .bl _ => true
  | .int _ => true
  | .str _ => true
  | _ => false
/-- the expression reads slot i's own thing as shared; its value holds nothing of it -/
def fTmp {α : Type} (ok : α → Bool) (i : Nat) (m : Sm α) : Sm α := fun e => match e[i]? with
  | some s => match s.mut, s.th with
    | true, some o => match o.d with
      | some d => match m (e.set i (.sh d)) with
        | some (.ok x _) => if ok x = true then some (.ok x e) else none
        | _ => none
      | none => none
    | _, _ => m e
  | none => none
section
variable {X : Cx} {κ : Kx} {W : WX}
theorem tmp_tr {α β : Type} {R : Rl α β} {ok : α → Bool} {i : Nat} {m : Sm α} (hR : ∀ {σ N N' H H' G G' env env' v x}, ok x = true → R σ N H G env v x → R σ N' H' G' env' v x) {σ : L2.St} {H : Hp} {Q : β → Hp → Prop} (h : tX κ W R (fTmp ok i m) σ H Q) : tX κ W R m σ H Q := by
  obtain ⟨G, env, r, q⟩ := h
  unfold fTmp at q
  cases z : env[i]? with
  | none => rw [z] at q; exact q.elim
  | some s =>
    rw [z] at q
    dsimp only at q
    cases hm : s.mut with
    | false => rw [hm] at q; exact ⟨G, env, r, q⟩
    | true =>
      rw [hm] at q
      cases ht : s.th with
      | none => rw [ht] at q; exact ⟨G, env, r, q⟩
      | some o =>
        rw [ht] at q
        dsimp only at q
        cases hd : o.d with
        | none => rw [hd] at q; exact q.elim
        | some d =>
          rw [hd] at q
          dsimp only at q
          obtain ⟨v0, G', g1, g2, g3, g4⟩ := r.give z ht hm hd
          refine ⟨G', env.set i (.sh d), g2, ?_⟩
          cases w : m (env.set i (.sh d)) with
          | none => rw [w] at q; exact q.elim
          | some y => cases y with
            | ex x e1 => rw [w] at q; exact q.elim
            | ok x e1 =>
              rw [w] at q
              dsimp only at q
              by_cases hx : ok x = true
              · rw [if_pos hx] at q
                intro v H1 G1 r1 rv s1 f1
                have sub : Sub κ G.g H1 := ⟨fun a o e => s1.at (r.sub a o e) (r.sub.n a o e), r.sub.n, r1.sub.t⟩
                refine q v H1 G (r.grow s1 (Same.refl _) sub (fun _ => rfl) fun j b ow => (r.own ow).2) (hR hx rv) s1 ?_
                exact Fr.same s1 (Same.refl _) (fun _ _ _ h _ => h) (fun _ _ _ h => h) fun _ _ _ h => ⟨h, rfl⟩
              · rw [if_neg hx] at q; exact q.elim
theorem rp_atm {G G' : Hp} {v : V} {d : D} (h : d.atm = true) (r : Rp κ G v d) : Rp κ G' v d := by
  cases r with
  | non => exact .non
  | bl b => exact .bl b
  | int b => exact .int b
  | str b => exact .str b
  | _ => cases h
theorem v_tmp {e : Expr} {i : Nat} {m : Sm D} (h : PE X e (tX κ W (RP κ) m)) : PE X e (tX κ W (RP κ) (fTmp D.atm i m)) := PE.imp h fun σ H Q q => tmp_tr (R := RP κ) (fun hx r => rp_atm hx r) q
theorem t_tmp {e : Expr} {i : Nat} {m : Sm Bool} (h : PT X e (tX κ W RT m)) : PT X e (tX κ W RT (fTmp (fun _ => true) i m)) := PT.imp h fun σ H Q q => tmp_tr (R := RT) (fun _ r => r) q
theorem v_ifV {a b c : Expr} {pos : Pos} {mt : Sm Bool} {ma mb : Sm Rs} (ht : PT X c (tX κ W RT mt)) (ha : PE X a (tX κ W (RV κ) ma)) (hb : PE X b (tX κ W (RV κ) mb)) : PE X (.IfExp c a b pos) (tX κ W (RV κ) (fIf mt ma mb)) := PE.imp (pe_ifExp ht ha hb) fun σ H Q ⟨G, env, r, q⟩ => bind_post r q fun d e1 v H1 G1 em r1 rv s1 f1 q1 => by
  cases rv
  cases d with
  | true => exact ⟨G1, e1, r1, q1⟩
  | false => exact ⟨G1, e1, r1, q1⟩
end
end Vs

set_option Elab.async false
set_option linter.all false
set_option maxRecDepth 100000
set_option maxHeartbeats 2000000
/-! Vd: an except suite that raises NoUse; defs whose errors have no context. -/
namespace L2
open PySem PySem.Spec PyProof.Rows
section
variable {X : Cx} {C fI : Addr}
theorem pmkN_low_NoUse {a : Expr} {ta : TA} {p pos : Pos} (T : PySem.LowX_NoUse.LowTxt X.K X.mg C fI) (hr : X.A.depth + 2 < recursionLimit) (ha : PA X [a] ta) (hg : Gl X "NoUse" := by rfl)
    (he : starEach (a :: []) X.env = (false, eval a X.env) :: starEach [] X.env := by rfl) (hpl : (backTo pos (starEach [] X.env)).any (·.1) = false := by rfl) :
    L2N.PMk X (.Call (.Name "NoUse" p) [a] [] pos) (tMkLow_NoUse C ta) := by
  intro pins s σ H Q I h
  refine wpAny_Call_Name_kw (ld_glob I hg T.gC ?_)
  refine PySem.W.callWith_K (h₀ := X.base) I.ok.mod.kin T.kC (thn (ha.run pos pins s σ H _ I h) fun us s1 hh => ?_) he hpl
  obtain ⟨vs, H1, I1, r1, v, ev, q1⟩ := hh
  subst ev
  refine ⟨I1.kIn, ?_⟩
  cases r1 with
  | cons rv rn =>
    rename_i v' us'
    cases rn
    show wpAny _ _ (call (.ref C) [v']) _ _ _
    have hlim := I1.nolimit
    obtain ⟨hp, g, dr, tk, os⟩ := s1
    refine wpAny_call (PySem.LowX_NoUse.low_made T I1.kIn hlim (by omega) fun h' tk' e d M => ?_)
    show L2N.MkP X pins σ Q (.ref e) ⟨h', g, dr, tk', os⟩
    obtain ⟨oe, fv, hoe, hc, hd, hdat, h1, h2⟩ := M.obj
    have hns := M.ns
    obtain ⟨G', g1, g2⟩ := restrict h' fun b => decide (b ≠ e)
    have gk : ∀ b, b ≠ e → G'.get? b = h'.get? b := fun b hb => g1 b (decide_eq_true hb)
    have ge : G'.get? e = none := g2 e (by simp)
    have old : ∀ b o, hp.get? b = some o → G'.get? b = some o := fun b o q => (gk b (Nat.ne_of_lt (Nat.lt_of_lt_of_le (Heap.lt_size q) M.new))).trans (M.keep b o q)
    have ob : ObjOk X.prog X.w (upd H1 d (.xd [(("at" : Str), v)])) G' d (.xd [(("at" : Str), v)]) :=
      ⟨_, hns.at (fun o q => (gk d M.dne).trans q), fun f => relO_low_NoUse rv f⟩
    have J : Inv X pins σ (upd H1 d (.xd [(("at" : Str), v)])) ⟨G', g, dr, tk', os⟩ := I1.laid (t' := tk') old M.dbig ob
    refine ⟨e, oe, fv, ⟨G', g, dr, tk', os⟩, _, .ref C, some d, rfl, J, fun b o q => ?_, ge, hoe, ⟨hc, hd, fun vs q => by rw [hdat] at q; cases q; exact h2⟩, hdat, h1, ?_, rfl, I1.bare, raises_own T.exC T.tyC, q1 d (I1.hok.fresh M.dbig)⟩
    · by_cases hb : b = e
      · have q' : G'.get? b = some o := q
        rw [hb, ge] at q'; cases q'
      · exact (gk b hb).symm.trans q
    · rw [upd_ne (Ne.symm M.dne)]
      exact I1.hok.fresh M.new
end
/-- a def whose errors have no context -/
theorem Fun.okN {P : Program} {w : World} {K : PySem.W.Frag} {mg : Str → Option Value} {base : Heap} {x qual : Str} {st : Stmt} {f : Addr} {fd : FuncData} {N ps : List Str} {k : Nat} {sp : Sp} (F : Fun K x qual st f fd) (S : FnScope N ps (defScope st)) (len : ∀ vs H Q E, sp vs H Q E → vs.length = ps.length)
    (hbody : ∀ (cdv : Value) (A : Around) (outer : List Env) (s : Shared) (H : Hp) (vs : List V) (Q : VK) (E : XK), Room k (A.deeper (envOfC qual (defScope st) s.heap.objs.size f cdv)) → sp vs H Q E →
      ∃ t, PSs (cxOf (L2N.CX P w) P w K mg base N qual (defScope st) f cdv A outer s H E) (defBody st) t ∧ t { nx := fun _ H' => Q .non H', rt := Q } (start N vs) H) : FnOk P w K mg base (L2N.CX P w) (k + 1) f fd ps sp := by
  obtain ⟨oc, od, kV, doc, pm, an, cdv, ct, osl, rfl, lk, hcd⟩ := F.ex
  exact fn_of lk hcd S len fun A outer s H vs Q E hr hsp => hbody cdv A outer s H vs Q E hr hsp
end L2
namespace Vs
open PySem PySem.Spec PyProof.Rows L2
/-- a def whose errors have no context keeps its function -/
structure VFnN (P : Program) (w : World) (κ : Kx) (mg : Str → Option Value) (base : Heap) (x : Str) (k : Nat) (ms : List Bool) (g : FSem) : Prop where
  ex : ∃ (f : Addr) (fd : FuncData) (ps : List Str), mg x = some (.ref f) ∧ PySem.W.keepIn κ.K (.ref f) = true ∧ FnOk P w κ.K mg base (L2N.CX P w) k f fd ps (spV κ ms g) ∧ Binds κ.K fd ps []
section
variable {X : Cx} {κ : Kx} {W : WX} {e a : Expr} {es : List Expr} {ms : List Bool} {g : FSem} {mr : Sm (List D)} {m : Sm D} {k : Nat} {x : Str} {p pos pos2 : Pos}
theorem passAtN (tk : L2N.Takes X W) (σ : L2.St) : PassesAt (L2N.CX X.prog X.w) X σ (WE W σ) := fun pins H s e s' I c => tk e s' (L2N.XE.of_call I (fun cls d H' h => h) c)
theorem v_callN (F : VFnN X.prog X.w κ X.mg X.base x k ms g) (hK : X.K = κ.K) (hr : Room k X.A) (tk : L2N.Takes X W) (hg : Gl X x) (ha : PA X (e :: es) (tX κ W (RA κ ms) mr)) (hdb : (x == ("__debug__" : Str)) = false := by decide)
    (he : starEach (e :: es) X.env = (false, eval e X.env) :: starEach es X.env := by rfl) (hpl : (backTo pos (starEach es X.env)).any (·.1) = false := by rfl) : PE X (.Call (.Name x p) (e :: es) [] pos) (tX κ W (RV κ) (fCall g mr)) := by
  obtain ⟨f, fd, ps, hm, hk, F1, hb⟩ := F.ex
  rw [← hK] at hk F1 hb
  refine PE.imp (pe_callS F1 hr hg hm hk hb (fun σ => passAtN tk σ) ha hdb he hpl) fun σ H Q ⟨G, env, r, q⟩ => ?_
  exact bind_post r q fun d e1 vs H1 G1 em r1 rv s1 f1 q1 => call_post r1 rv q1
theorem s_raiseN_NoUse {c : Nat} {fI : Addr} (hc : X.calm = true) (hK : X.K = κ.K) (hf : κ.xf c = some "at") (T : PySem.LowX_NoUse.LowTxt κ.K X.mg (κ.xc c) fI) (hr : Room k X.A) (tk : L2N.Takes X W) (he : PE X a (tX κ W (RB κ) m)) (hg : Gl X "NoUse" := by rfl)
    (hs : starEach (a :: []) X.env = (false, eval a X.env) :: starEach [] X.env := by rfl) (hpl : (backTo pos (starEach [] X.env)).any (·.1) = false := by rfl) : PS X (.Raise (some (.Call (.Name "NoUse" p) [a] [] pos)) none pos2) (tS κ W (fRaise1 c m)) := by
  rw [← hK] at T
  exact PS.imp (L2N.ps_raise hc tk (pmkN_low_NoUse T (by have := hr.dp; omega) (pa_cons (im he) pa_nil hs) hg hs hpl)) fun D σ H h => raise1_tr hf h
theorem dp2 {k : Nat} {A : Around} (hr : Room k A) : A.depth + 2 < recursionLimit := by have := hr.dp; omega
/-- .. in an except suite -/
theorem s_raiseH_NoUse {c : Nat} {fI : Addr} (hc : L2H.HotC X) (hK : X.K = κ.K) (hf : κ.xf c = some "at") (T : PySem.LowX_NoUse.LowTxt κ.K X.mg (κ.xc c) fI) (hr : X.A.depth + 2 < recursionLimit) (tk : Takes X W) (he : PE X a (tX κ W (RB κ) m)) (hg : Gl X "NoUse" := by rfl)
    (hs : starEach (a :: []) X.env = (false, eval a X.env) :: starEach [] X.env := by rfl) (hpl : (backTo pos (starEach [] X.env)).any (·.1) = false := by rfl) : PS X (.Raise (some (.Call (.Name "NoUse" p) [a] [] pos)) none pos2) (tS κ W (fRaise1 c m)) := by
  rw [← hK] at T
  exact PS.imp (L2H.ps_raiseH hc tk (pmkN_low_NoUse T hr (pa_cons (im he) pa_nil hs) hg hs hpl)) fun D σ H h => raise1_tr hf h
end
/-- except X, the suite may raise -/
def sTryR (xs : Nat → Nat → Option Bool) (h : Nat) (body suite : Ss) : Ss := fun e => match body e with
  | some (.ex x e1) => match xs x.c h with
    | some true => suite e1
    | some false => some (.ex x e1)
    | none => none
  | o => o
section
variable {X : Cx} {κ : Kx} {W : WX} {x : Str} {h : Nat} {xs : Nat → Nat → Option Bool} {body suite : List Stmt} {b₀ : Stmt} {np pos pos' : Pos} {mb m0 : Ss}
theorem s_tryR (hs : X.stack = X.env :: X.outer) (hf : X.env.frame = some X.env.locals) (hK : X.K = κ.K) (hc : Names X x (.ref (κ.xc h))) (hx : XsOk κ xs h) (hpa : ∀ hd : Option Value, PassesOwnAt (model X.prog X.w) (X.A.mark hd) X.A X.env X.xe) (tk : Takes X W)
    (hb : ∀ (W : WX) (pn : List (Addr × Obj)) (xe : Value → Shared → Prop), L2N.Takes (X.tr pn xe) W → PassesOwn (model X.prog X.w) X.A X.env xe → PSs (X.tr pn xe) body (tS κ W mb))
    (hsu : ∀ (a : Addr) (oe : Obj) (pn : List (Addr × Obj)), L2.Takes (L2H.suiteX X a ((a, oe) :: pn)) W → L2H.HotC (L2H.suiteX X a ((a, oe) :: pn)) → PSs (L2H.suiteX X a ((a, oe) :: pn)) (b₀ :: suite) (tS κ W m0)) :
    PS X (.Try body [.ExceptHandler (some (.Name x np)) none (b₀ :: suite) pos'] [] [] pos) (tS κ W (sTryR xs h mb m0)) :=
  PS.imp (L2H.ps_try_onlyX (tb := fun W => tS κ W mb) (ts := fun a cls d => tS κ W m0) hs hf hc hpa tk (fun W pn xe t _ p => hb W pn xe t p) (fun a oe cls d pn _ _ t hot => hsu a oe pn t hot)) fun D0 σ H ⟨G, env, r, q⟩ => by
    refine ⟨G, env, r, ?_⟩
    unfold sTryR at q
    cases w : mb env with
    | none => rw [w] at q; exact q
    | some o => cases o with
      | nx e => rw [w] at q; exact q
      | bk e => rw [w] at q; exact q
      | ct e => rw [w] at q; exact q
      | rt e => rw [w] at q; exact q
      | rv e e2 => rw [w] at q; exact q
      | ex y e1 =>
        rw [w] at q
        dsimp only at q
        intro c d σ1 H1 G1 r1 xr f1
        cases z : xs y.c h with
        | none => rw [z] at q; exact q.elim
        | some b =>
          rw [z] at q
          refine ⟨b, ?_, fun hb a ha => ?_, fun hb => ?_⟩
          · rw [xr.1, hK]
            exact hx _ _ z
          · subst hb
            exact ⟨G1, e1, r1, SPost.shift f1 q⟩
          · subst hb
            exact q c d σ1 H1 G1 r1 xr f1
end
end Vs

set_option Elab.async false
set_option linter.all false
set_option maxRecDepth 100000
set_option maxHeartbeats 2000000
/-! Ve: the own lists within an own tuple or list, read and changed. -/
namespace Vs
open PySem PySem.Spec PyProof.Rows L2
def sqAt (e : En) (i : Nat) : Option (Bool × List Fd) := match e[i]? with
  | some (.tr (.sq t fs)) => some (t, fs)
  | _ => none
/-- the item's number within the thing at slot i -/
def RIt (κ : Kx) (i : Nat) : Rl Int V := fun σ _ H _ env v z => ∃ t fs k a xs, sqAt env i = some (t, fs) ∧ ixN fs.length z = some k ∧ σ[i]? = some (some (.ref a)) ∧ H a = some (sqH t xs) ∧ xs[k]? = some v
instance {κ : Kx} {i : Nat} : RlMono (RIt κ i) := ⟨fun _ q => q⟩
def eIxI (i : Nat) (mb : Sm D) : Sm Int := fun e0 => match sqAt e0 i with
  | none => none
  | some _ => bnd mb (fun d e => match d with
    | .int z => match sqAt e i with
      | some (_, fs) => match ixN fs.length z with
        | some k => if k < fs.length then some (.ok z e) else none
        | none => none
      | none => none
    | _ => none) e0
def fItm (i : Nat) (m : Sm Int) : Sm D := bnd m fun z e => match sqAt e i with
  | some (_, fs) => match ixN fs.length z with
    | some k => match fs[k]? with
      | some f => some (.ok f.d e)
      | none => none
    | none => none
  | none => none
def fItV (i : Nat) (m : Sm Int) : Sm D := bnd m fun z e => match sqAt e i with
  | some (_, fs) => match ixN fs.length z with
    | some k => match fs[k]? with
      | some (.sh d) => some (.ok d e)
      | _ => none
    | none => none
  | none => none
/-- the own list at item z of slot i changed -/
def chS (i : Nat) (z : Int) (f : List D → Option (List D)) (e : En) : Option En := match sqAt e i with
  | some (t, fs) => match ixN fs.length z with
    | some k => match fs[k]? with
      | some (.ow l) => match f l with
        | some l' => some (e.set i (.tr (.sq t (fs.set k (.ow l')))))
        | none => none
      | _ => none
    | none => none
  | none => none
section
variable {X : Cx} {κ : Kx} {W : WX} {σ : L2.St} {H H1 H2 : Hp} {G G1 G2 : Gh} {env e1 e2 : En} {i : Nat}
theorem sq_at {t : Bool} {fs : List Fd} (r : Rep κ H G σ env) (h : sqAt env i = some (t, fs)) : env[i]? = some (.tr (.sq t fs)) ∧ ∃ a xs F, σ[i]? = some (some (.ref a)) ∧ G.fp i = a :: F ∧ H a = some (sqH t xs) ∧ G.g a = none ∧ RFs κ H G xs fs F ∧ a ∉ F := by
  unfold sqAt at h
  split at h
  · rename_i t' fs' e
    cases h
    obtain ⟨v, h1, ro⟩ := (r.slot i _ e).th rfl
    refine ⟨e, ?_⟩
    generalize hF : G.fp i = F0 at ro
    cases ro with
    | @sq a _ xs _ F g1 g2 g3 g4 => exact ⟨a, xs, F, h1, rfl, g1, g2, g3, g4⟩
  · cases h
theorem sqH_inj {t t' : Bool} {xs ys : List V} (h : sqH t xs = sqH t' ys) : t = t' ∧ xs = ys := by
  cases t <;> cases t' <;> cases h <;> exact ⟨rfl, rfl⟩
theorem v_itm {x : Str} {np pos : Pos} {b : Expr} {mb : Sm D} (hK : X.K = κ.K) (hx : PE X (.Name x np) (tVar i)) (hb : PE X b (tX κ W (RB κ) mb)) (hs : PlainIx b) : PE X (.Subscript (.Name x np) b pos) (tX κ W (RIt κ i) (eIxI i mb)) :=
  PE.imp (pe_ix (r := rIx κ.K) (by rw [← hK]; exact ix_seq) hx hb hs) fun σ H Q ⟨G, env, r, q⟩ => by
    unfold eIxI at q
    cases w : sqAt env i with
    | none => rw [w] at q; exact q.elim
    | some tf =>
      obtain ⟨t, fs⟩ := tf
      rw [w] at q
      obtain ⟨_, a, xs, F, h1, h2, h3, h4, h5, h6⟩ := sq_at r w
      refine ⟨_, h1, ?_⟩
      refine bind_post r q fun d e1 y H1 G1 _ r1 ry s1 f1 q1 => ?_
      cases d with
      | int z =>
        dsimp only at q1
        cases w1 : sqAt e1 i with
        | none => rw [w1] at q1; exact q1.elim
        | some tf =>
          obtain ⟨t1, fs1⟩ := tf
          rw [w1] at q1
          dsimp only at q1
          obtain ⟨_, a1, xs1, F1, k1, k2, k3, k4, k5, k6⟩ := sq_at r1 w1
          rw [h1] at k1
          cases k1
          cases w2 : ixN fs1.length z with
          | none => rw [w2] at q1; exact q1.elim
          | some k =>
            rw [w2] at q1
            dsimp only at q1
            by_cases hk : k < fs1.length
            · rw [if_pos hk] at q1
              have ln := k5.len
              obtain ⟨u, hv⟩ : ∃ u, xs1[k]? = some u := ⟨_, List.getElem?_eq_getElem (by omega)⟩
              have ha : atI xs1 z = some u := by
                unfold atI
                rw [ln, w2]
                exact hv
              have fin := q1 u H1 G1 r1 ⟨t1, fs1, k, a, xs1, w1, w2, h1, k3, hv⟩ (Grw.refl _) Fr.refl
              cases t1 with
              | false => exact .inl ⟨a, xs1, z, _, rfl, RBq.int ry, SqL.of k3, ha, fin⟩
              | true => exact .inr (.inl ⟨a, xs1, z, _, rfl, RBq.int ry, SqT.of k3, ha, fin⟩)
            · rw [if_neg hk] at q1; exact q1.elim
      | _ => exact q1.elim
theorem it_rb {t : Bool} {fs : List Fd} {k : Nat} {z : Int} {v : V} {f : Fd} (r : Rep κ H G σ env) (h : RIt κ i σ (Nw H G env) H G env v z) (w1 : sqAt env i = some (t, fs)) (w2 : ixN fs.length z = some k) (w3 : fs[k]? = some f) :
    (∃ d, f = .sh d ∧ Rp κ G v d) ∨ ∃ a xs l, f = .ow l ∧ v = .ref a ∧ H a = some (.lst xs) ∧ RpA κ G xs l := by
  obtain ⟨t', fs', k', a, xs, g1, g2, g3, g4, g5⟩ := h
  rw [w1] at g1
  cases g1
  rw [w2] at g2
  cases g2
  obtain ⟨_, a', xs', F, k1, k2, k3, k4, k5, k6⟩ := sq_at r w1
  rw [g3] at k1
  cases k1
  rw [g4] at k3
  obtain ⟨_, rfl⟩ := sqH_inj (Option.some.inj k3)
  obtain ⟨u, u1, u2⟩ := k5.at w3
  rw [g5] at u1
  cases u1
  rcases u2 with u2 | ⟨a, xs, l, e1, e2, e3, e4, e5, e6⟩
  · exact .inl u2
  · exact .inr ⟨a, xs, l, e1, e2, e3, e5⟩
theorem b_itm {e : Expr} {m : Sm Int} (h : PE X e (tX κ W (RIt κ i) m)) : PE X e (tX κ W (RB κ) (fItm i m)) := PE.imp h fun σ H Q ⟨G, env, r, q⟩ => bind_post r q fun z e1 v H1 G1 _ r1 rv s1 f1 q1 => by
  cases w1 : sqAt e1 i with
  | none => rw [w1] at q1; exact q1.elim
  | some tf =>
    obtain ⟨t, fs⟩ := tf
    rw [w1] at q1
    dsimp only at q1
    cases w2 : ixN fs.length z with
    | none => rw [w2] at q1; exact q1.elim
    | some k =>
      rw [w2] at q1
      dsimp only at q1
      cases w3 : fs[k]? with
      | none => rw [w3] at q1; exact q1.elim
      | some f =>
        rw [w3] at q1
        rcases it_rb r1 rv w1 w2 w3 with ⟨d, rfl, rp⟩ | ⟨a, xs, l, rfl, rfl, h1, h2⟩
        · exact q1 v H1 G1 r1 (.inl rp) (Grw.refl _) Fr.refl
        · exact q1 _ H1 G1 r1 (.inr ⟨a, xs, l, rfl, rfl, h1, h2⟩) (Grw.refl _) Fr.refl
theorem v_itV {e : Expr} {m : Sm Int} (h : PE X e (tX κ W (RIt κ i) m)) : PE X e (tX κ W (RP κ) (fItV i m)) := PE.imp h fun σ H Q ⟨G, env, r, q⟩ => bind_post r q fun z e1 v H1 G1 _ r1 rv s1 f1 q1 => by
  cases w1 : sqAt e1 i with
  | none => rw [w1] at q1; exact q1.elim
  | some tf =>
    obtain ⟨t, fs⟩ := tf
    rw [w1] at q1
    dsimp only at q1
    cases w2 : ixN fs.length z with
    | none => rw [w2] at q1; exact q1.elim
    | some k =>
      rw [w2] at q1
      dsimp only at q1
      cases w3 : fs[k]? with
      | none => rw [w3] at q1; exact q1.elim
      | some f =>
        rw [w3] at q1
        cases f with
        | ow l => exact q1.elim
        | sh d =>
          rcases it_rb r1 rv w1 w2 w3 with ⟨d, e, rp⟩ | ⟨a, xs, l, e, _⟩
          · cases e
            exact q1 v H1 G1 r1 rp (Grw.refl _) Fr.refl
          · cases e
/-- the change of an item's own list -/
theorem chS_of {z : Int} {g : List D → Option (List D)} {v : V} {a : Addr} {t0 : Bool} {xs0 : List V} {k0 : Nat} (r : Rep κ H G σ env) (h : chS i z g env = some e1) (g3 : σ[i]? = some (some (.ref a))) (g4 : H a = some (sqH t0 xs0)) (g5 : ixN xs0.length z = some k0) (g6 : xs0[k0]? = some v) :
    ∃ b ys l l', v = .ref b ∧ H b = some (.lst ys) ∧ RpA κ G ys l ∧ g l = some l' ∧ ∀ zs, RpA κ G zs l' → ∃ G', G'.g = G.g ∧ Rep κ (upd H b (.lst zs)) G' σ e1 ∧ Fr H G σ env (upd H b (.lst zs)) G' σ e1 := by
  unfold chS at h
  cases w1 : sqAt env i with
  | none => rw [w1] at h; cases h
  | some tf =>
    obtain ⟨t, fs⟩ := tf
    rw [w1] at h
    dsimp only at h
    obtain ⟨es, a', xs, F, k1, k2, k3, k4, k5, k6⟩ := sq_at r w1
    rw [g3] at k1
    cases k1
    rw [g4] at k3
    obtain ⟨rfl, rfl⟩ := sqH_inj (Option.some.inj k3)
    rw [← k5.len] at h
    rw [g5] at h
    dsimp only at h
    cases w3 : fs[k0]? with
    | none => rw [w3] at h; cases h
    | some f =>
      rw [w3] at h
      cases f with
      | sh d => cases h
      | ow l =>
        dsimp only at h
        cases w4 : g l with
        | none => rw [w4] at h; cases h
        | some l' =>
          rw [w4] at h
          cases h
          obtain ⟨u, u1, u2⟩ := k5.at w3
          rw [g6] at u1
          cases u1
          rcases u2 with ⟨d, e, _⟩ | ⟨b, ys, l2, e, e2, e3, e4, e5, e6⟩
          · cases e
          · cases e
            subst e2
            refine ⟨b, ys, l, l', rfl, e3, e5, w4, fun zs hz => ?_⟩
            have nb : a ≠ b := fun q => k6 (q ▸ e6)
            have fs' := RFs.chg (κ := κ) (G := G) (H := upd H b (.lst zs)) (b := b) upd_same hz H k0 l k5 w3 g6 (fun a u n hu => by rw [upd_ne n]; exact hu)
            have ro : RO κ (upd H b (.lst zs)) G (.ref a) (.sq t0 (fs.set k0 (.ow l'))) (a :: F) := .sq (by rw [upd_ne nb]; exact g4) k4 fs' k6
            exact r.chgO (s' := .tr (.sq t0 (fs.set k0 (.ow l')))) es rfl rfl rfl (fun q => by cases q) rfl g3 ro (fun c u hu m => by
              have n : c ≠ b := fun q => m (by rw [k2, q]; exact List.mem_cons_of_mem _ e6)
              rw [upd_ne n]
              exact hu) fun c m => .inl (by rw [k2]; exact m)
theorem it_at {z : Int} {v : V} (r : Rep κ H G σ env) (h : RIt κ i σ (Nw H G env) H G env v z) : ∃ t xs a k, σ[i]? = some (some (.ref a)) ∧ H a = some (sqH t xs) ∧ ixN xs.length z = some k ∧ xs[k]? = some v := by
  obtain ⟨t, fs, k, a, xs, g1, g2, g3, g4, g5⟩ := h
  obtain ⟨_, a', xs', F, k1, k2, k3, k4, k5, k6⟩ := sq_at r g1
  rw [g3] at k1
  cases k1
  rw [g4] at k3
  obtain ⟨_, rfl⟩ := sqH_inj (Option.some.inj k3)
  exact ⟨t, xs, a, k, g3, g4, by rw [k5.len]; exact g2, g5⟩
/-! ### statements -/
def sItC (i : Nat) (mo : Sm Int) : Ss := sbnd mo fun z e => match chS i z (fun _ => some []) e with
  | some e1 => some (.nx e1)
  | none => none
def sItA (i : Nat) (mo : Sm Int) (m : Sm D) : Ss := sbnd mo fun z e0 => match chS i z some e0 with
  | some _ => sbnd m (fun d e => match chS i z (fun l => if l.length < szl then some (l ++ [d]) else none) e with
    | some e1 => some (.nx e1)
    | none => none) e0
  | none => none
def sItI (i : Nat) (mo : Sm Int) (mj m : Sm D) : Ss := sbnd mo fun z e0 => match chS i z some e0 with
  | some _ => sbnd mj (fun j => sbnd m fun d e => match j with
    | .int y => match chS i z (fun l => if 0 ≤ y ∧ y ≤ 1000000 ∧ l.length < szl then some (l.take y.toNat ++ [d] ++ l.drop y.toNat) else none) e with
      | some e1 => some (.nx e1)
      | none => none
    | _ => none) e0
  | none => none
def sItS (i : Nat) (mo : Sm Int) (mj m : Sm D) : Ss := sbnd m fun d => sbnd mo fun z => sbnd mj fun j e => match j with
  | .int y => match chS i z (fun l => opSetI l y d) e with
    | some e1 => some (.nx e1)
    | none => none
  | _ => none
variable {o e ej : Expr} {mo : Sm Int} {mj m : Sm D} {apos cpos pos p2 : Pos}
theorem s_itC (hK : X.K = κ.K) (ho : PE X o (tX κ W (RIt κ i) mo))
    (hs : swapsWith (.Call (.Attribute o "clear" apos) [] [] cpos) none pos.line X.env = pure false := by rfl) (hbase : attributeBase o "clear" X.env (eval o X.env) = eval o X.env := by rfl) (hline : (apos.endLine == cpos.line) = true := by rfl) :
    PS X (.Expr (.Call (.Attribute o "clear" apos) [] [] cpos) pos) (tS κ W (sItC i mo)) :=
  PS.imp (ps_expr (pe_bm0 PySem.F.plainAttrs_list PySem.F.slot_list_clear PySem.F.type_list_clear mt_clear ho hbase hline) hs) fun D σ H ⟨G, env, r0, q⟩ => by
    rw [hK]
    refine sbind_postX r0 q fun z e1 v H1 G1 _ r1 rv s1 f1 q1 => ?_
    cases hc : chS i z (fun _ => some []) e1 with
    | none => rw [hc] at q1; exact q1.elim
    | some e2 =>
      rw [hc] at q1
      obtain ⟨t, xs, a, k, g3, g4, g5, g6⟩ := it_at r1 rv
      obtain ⟨b, ys, l, l', rfl, h2, h3, h4, h5⟩ := chS_of r1 hc g3 g4 g5 g6
      cases h4
      obtain ⟨G2, _, r2, f2⟩ := h5 [] .nil
      exact ⟨.inl ⟨rfl, ys, SqL.of h2⟩, b, ys, rfl, rfl, h2, q1 σ _ G2 r2 f2⟩
theorem s_itA (hK : X.K = κ.K) (ho : PE X o (tX κ W (RIt κ i) mo)) (he : PE X e (tX κ W (RP κ) m))
    (hs : swapsWith (.Call (.Attribute o "append" apos) [e] [] cpos) none pos.line X.env = pure false := by rfl)
    (hbase : attributeBase o "append" X.env (eval o X.env) = eval o X.env := by rfl)
    (hfew : ((backTo cpos (starEach [e] X.env)).all (fun x => !x.1) && (backToKw cpos (keywordEach [] X.env)).all (fun x => x.1.isSome)
      && decide (([e] : List Expr).length + ([] : List Keyword).length + (if ([] : List Keyword).isEmpty then 0 else 1) < 30)) = true := by rfl)
    (hline : (apos.endLine == cpos.line) = true := by rfl) (hst : starEach [e] X.env = (false, eval e X.env) :: starEach [] X.env := by rfl) (hplain : (backTo cpos (starEach [] X.env)).any (·.1) = false := by rfl) :
    PS X (.Expr (.Call (.Attribute o "append" apos) [e] [] cpos) pos) (tS κ W (sItA i mo m)) :=
  PS.imp (ps_expr (pe_bm PySem.F.plainAttrs_list PySem.F.slot_list_append PySem.F.type_list_append mt_append ho (pa_cons he pa_nil hst) hbase hfew hline hst hplain) hs) fun D σ H ⟨G, env, r0, q⟩ => by
    rw [hK]
    refine sbind_postX r0 q fun z e1 v H1 G1 _ r1 rv s1 f1 q1 => ?_
    cases hc : chS i z some e1 with
    | none => rw [hc] at q1; exact q1.elim
    | some e2 =>
      rw [hc] at q1
      dsimp only at q1
      obtain ⟨t, xs, a, k, g3, g4, g5, g6⟩ := it_at r1 rv
      obtain ⟨b, ys, l, l', rfl, h2, _⟩ := chS_of r1 hc g3 g4 g5 g6
      refine ⟨.inl ⟨rfl, ys, SqL.of h2⟩, ?_⟩
      refine sbind_postX r1 q1 fun d e3 u H2 G2 _ r2 ru s2 f2 q2 => ?_
      cases hc2 : chS i z (fun l => if l.length < szl then some (l ++ [d]) else none) e3 with
      | none => rw [hc2] at q2; exact q2.elim
      | some e4 =>
        rw [hc2] at q2
        obtain ⟨b', ys', l2, l3, e, k2, k3, k4, k5⟩ := chS_of r2 hc2 g3 (s2.at g4 (sqH_pln _ _).1) g5 g6
        cases e
        by_cases hsz : l2.length < szl
        · rw [if_pos hsz] at k4
          cases k4
          obtain ⟨G3, _, r3, f3⟩ := k5 (ys' ++ [u]) (k3.append (.cons ru .nil))
          exact ⟨b, ys', u, rfl, rfl, k2, by rw [k3.length]; exact szl_lt (Nat.le_of_lt hsz), q2 σ _ G3 r3 f3⟩
        · rw [if_neg hsz] at k4; cases k4
theorem s_itI {e2 : Expr} (hK : X.K = κ.K) (ho : PE X o (tX κ W (RIt κ i) mo)) (he : PE X e (tX κ W (RP κ) mj)) (he2 : PE X e2 (tX κ W (RP κ) m))
    (hs : swapsWith (.Call (.Attribute o "insert" apos) [e, e2] [] cpos) none pos.line X.env = pure false := by rfl)
    (hbase : attributeBase o "insert" X.env (eval o X.env) = eval o X.env := by rfl)
    (hfew : ((backTo cpos (starEach [e, e2] X.env)).all (fun x => !x.1) && (backToKw cpos (keywordEach [] X.env)).all (fun x => x.1.isSome)
      && decide (([e, e2] : List Expr).length + ([] : List Keyword).length + (if ([] : List Keyword).isEmpty then 0 else 1) < 30)) = true := by rfl)
    (hline : (apos.endLine == cpos.line) = true := by rfl) (hst : starEach [e, e2] X.env = (false, eval e X.env) :: starEach [e2] X.env := by rfl) (hst2 : starEach [e2] X.env = (false, eval e2 X.env) :: starEach [] X.env := by rfl) (hplain : (backTo cpos (starEach [e2] X.env)).any (·.1) = false := by rfl) :
    PS X (.Expr (.Call (.Attribute o "insert" apos) [e, e2] [] cpos) pos) (tS κ W (sItI i mo mj m)) :=
  PS.imp (ps_expr (pe_bm PySem.F.plainAttrs_list PySem.F.slot_list_insert PySem.F.type_list_insert mt_insert ho (pa_cons he (pa_cons he2 pa_nil hst2) hst) hbase hfew hline hst hplain) hs) fun D σ H ⟨G, env, r0, q⟩ => by
    rw [hK]
    refine sbind_postX r0 q fun z e1 v H1 G1 _ r1 rv s1 f1 q1 => ?_
    cases hc : chS i z some e1 with
    | none => rw [hc] at q1; exact q1.elim
    | some e2 =>
      rw [hc] at q1
      dsimp only at q1
      obtain ⟨t, xs, a, k, g3, g4, g5, g6⟩ := it_at r1 rv
      obtain ⟨b, ys, l, l', rfl, h2, _⟩ := chS_of r1 hc g3 g4 g5 g6
      refine ⟨.inl ⟨rfl, ys, SqL.of h2⟩, ?_⟩
      refine sbind_postX r1 q1 fun j e3 y H2 G2 _ r2 ry s2 f2 q2 => ?_
      refine sbind_postX r2 q2 fun d e4 u H3 G3 _ r3 ru s3 f3 q3 => ?_
      cases j with
      | int y =>
        dsimp only at q3
        cases hc2 : chS i z (fun l => if 0 ≤ y ∧ y ≤ 1000000 ∧ l.length < szl then some (l.take y.toNat ++ [d] ++ l.drop y.toNat) else none) e4 with
        | none => rw [hc2] at q3; exact q3.elim
        | some e5 =>
          rw [hc2] at q3
          obtain ⟨b', ys', l2, l3, e, k2, k3, k4, k5⟩ := chS_of r3 hc2 g3 ((s2.trans s3).at g4 (sqH_pln _ _).1) g5 g6
          cases e
          by_cases hb : 0 ≤ y ∧ y ≤ 1000000 ∧ l2.length < szl
          · rw [if_pos hb] at k4
            cases k4
            obtain ⟨G4, _, r4, f4⟩ := k5 _ (((k3.take y.toNat).append (.cons ru .nil)).append (k3.drop y.toNat))
            exact ⟨b, ys', y, u, rfl, by cases ry; rfl, k2, by rw [k3.length]; exact Nat.lt_of_lt_of_le hb.2.2 (szl_le (Nat.le_refl _)), hb.1, by omega, q3 σ _ G4 r4 f4⟩
          · rw [if_neg hb] at k4; cases k4
      | _ => exact q3.elim
theorem s_itS (ho : PE X o (tX κ W (RIt κ i) mo)) (hj : PE X ej (tX κ W (RB κ) mj)) (he : PE X e (tX κ W (RP κ) m))
    (hg : PG X (.Subscript o ej p2) (gSub (tX κ W (RIt κ i) mo) (tX κ W (RB κ) mj) rSetL))
    (hs : swapsWithSole [.Subscript o ej p2] e pos.line X.env = pure false := by rfl) (hw : swappedStores [.Subscript o ej p2] e X.env = pure none := by rfl) :
    PS X (.Assign [.Subscript o ej p2] e pos) (tS κ W (sItS i mo mj m)) := PS.imp (ps_asg he hg hs hw) fun D σ H ⟨G, env, r, q⟩ => by
  refine sbind_postX r q fun d e1 u H1 G1 _ r1 ru s1 f1 q1 => ?_
  refine sbind_postX r1 q1 fun z e2 v H2 G2 _ r2 rv s2 f2 q2 => ?_
  refine sbind_postX r2 q2 fun j e3 y H3 G3 _ r3 ry s3 f3 q3 => ?_
  cases j with
  | int t =>
    dsimp only at q3
    cases hc : chS i z (fun l => opSetI l t d) e3 with
    | none => rw [hc] at q3; exact q3.elim
    | some e4 =>
      rw [hc] at q3
      obtain ⟨t0, xs, a, k, g3, g4, g5, g6⟩ := it_at r2 rv
      obtain ⟨b, ys, l, l', rfl, k2, k3, k4, k5⟩ := chS_of r3 hc g3 (s3.at g4 (sqH_pln _ _).1) g5 g6
      unfold opSetI at k4
      cases w2 : ixN l.length t with
      | none => rw [w2] at k4; cases k4
      | some n =>
        rw [w2] at k4
        cases k4
        obtain ⟨G4, _, r4, f4⟩ := k5 (ys.set n u) (k3.set (Rp.mono (f2.gk.trans f3.gk) ru) n)
        exact ⟨b, ys, t, n, rfl, RBq.int ry, k2, by rw [k3.length]; exact w2, q3 σ _ G4 r4 f4⟩
  | _ => exact q3.elim
end
end Vs

set_option Elab.async false
set_option linter.all false
set_option maxRecDepth 100000
set_option maxHeartbeats 2000000
/-! Vk: sorted(xs, key=f) where the keys are data that hold lists. -/
namespace Vs
open PySem PySem.Spec PyProof.Rows L2
/-- a heap without the object at c -/
def lessAt (h : Heap) (c : Addr) : Heap := h.update c fun o => { o with data := .freed }
theorem lessAt_no (h : Heap) (c : Addr) : (lessAt h c).get? c = none := by
  cases h with
  | mk os l =>
    unfold lessAt Heap.update Heap.get?
    simp only [Array.getElem?_modify, if_true]
    cases os[c]? with
    | none => rfl
    | some o => rfl
theorem lessAt_ne (h : Heap) {b c : Addr} (n : b ≠ c) : (lessAt h c).get? b = h.get? b := Heap.get?_update_ne _ _ _ _ n
theorem dps_at {K : PySem.W.Frag} {H : Hp} : ∀ {vs : List V} {ds : List PyData}, DpAll K H vs ds → ∀ {us : List Value}, Vals vs us → ∀ {R : Value → PyData → Prop}, (∀ v u d, Dp K H v d → RelV v u → R u d) → PySem.W.EachIs R us ds
  | _, _, .nil, _, r, R, k => by cases r; exact .nil
  | _, _, .cons a t, _, r, R, k => by
    cases r with
    | cons r1 r2 => exact .cons (k _ _ _ a r1) (dps_at t r2 k)
theorem each_zip : ∀ {xs : List V} {us : List Value}, Vals xs us → ∀ (kz : List PyData), kz.length = xs.length → PySem.W.EachIs (fun (u : Value) (p : V × PyData) => RelV p.1 u) us (xs.zip kz)
  | _, _, .nil, kz, _ => .nil
  | _, _, .cons r t, [], h => by simp at h
  | _, _, .cons r t, k :: kz, h => .cons r (each_zip t kz (by simpa using h))
theorem vals_of_each : ∀ {us : List Value} {ps : List (V × PyData)}, PySem.W.EachIs (fun (u : Value) (p : V × PyData) => RelV p.1 u) us ps → Vals (ps.map Prod.fst) us
  | _, _, .nil => .nil
  | _, _, .cons r t => .cons r (vals_of_each t)
theorem zip_snd : ∀ {xs : List V} {kz : List PyData}, kz.length = xs.length → (xs.zip kz).map Prod.snd = kz
  | [], [], _ => rfl
  | [], _ :: _, h => by simp at h
  | _ :: _, [], h => by simp at h
  | x :: xs, k :: kz, h => by
    show k :: (xs.zip kz).map Prod.snd = k :: kz
    rw [zip_snd (by simpa using h)]
theorem vals_snoc {v : V} {u : Value} (r : RelV v u) : ∀ {vs : List V} {us : List Value}, Vals vs us → Vals (vs ++ [v]) (us ++ [u])
  | _, _, .nil => .cons r .nil
  | _, _, .cons q t => .cons q (vals_snoc r t)
theorem vals_get : ∀ {xs : List V} {us : List Value}, Vals xs us → ∀ {i : Nat} {u : Value}, us[i]? = some u → ∃ x, xs[i]? = some x ∧ RelV x u
  | _, _, .nil, i, u, e => by simp at e
  | _, _, .cons r t, 0, u, e => by
    simp only [List.getElem?_cons_zero, Option.some.injEq] at e
    subst e
    exact ⟨_, rfl, r⟩
  | _, _, .cons r t, i + 1, u, e => by
    simp only [List.getElem?_cons_succ] at e
    exact vals_get t e
/-- the pairs sorted by their keys -/
noncomputable def sortP {α : Type} (l : List (α × PyData)) : List (α × PyData) := l.mergeSort (PySem.W.dataLe false Prod.snd)
section
variable {X : Cx} {pins : List (Addr × Obj)} {σ : L2.St} {H : Hp} {s : Shared}
theorem sort_core {f : Value} {l : Addr} {xs : List V} {kz : List PyData} {J : List V → Hp → Prop} {Q : VK} {kw : List (Str × Value)} {E : Value → Shared → Prop} (I : Inv X pins σ H s) (hs : SqL X.K H l xs) (hkl : kz.length = xs.length) (hal : PySem.W.AllAlike kz) (hsk : PySem.W.Sortable kz)
    (hu : ∀ d, d ∈ kz → X.A.units + 2 + d.depth < cLine) (ha1 : argsOk "sorted" ⟨[.ref l], kw⟩) (ha2 : ∀ x, argsOk "list.sort" ⟨[.ref x], kw⟩) (ht : ∀ x, Builtin.«list.sort» ⟨[.ref x], kw⟩ = ksk_tree x f false) (j0 : J [] H)
    (turn : ∀ (ks : List V) (x : V) (u : Value) (H1 : Hp) (pins1 : List (Addr × Obj)) (s1 : Shared) (P : VK), xs[ks.length]? = some x → RelV x u → (∀ p ∈ pins, p ∈ pins1) → Inv X pins1 σ H1 s1 → J ks H1 → (∀ v H2, J (ks ++ [v]) H2 → P v H2) →
      wpAny (model X.prog X.w) X.A.in1.in1 (call f [u]) (EP X pins1 σ P) (fun _ _ => False) s1)
    (dp : ∀ ks H1, J ks H1 → ks.length = xs.length → DpAll X.K H1 ks kz)
    (done : ∀ ks H1 p, J ks H1 → H p = none → H1 p = none → Q (.ref p) (upd H1 p (.lst ((sortP (xs.zip kz)).map Prod.fst)))) :
    wpAny (model X.prog X.w) X.A (call (.builtin "sorted") [.ref l] kw) (EP X pins σ Q) E s := by
  obtain ⟨its, rv, hL, hz⟩ := I.list hs
  have hz1 : its.length ≤ sizeLine := by rw [← rv.length]; exact hz
  refine PySem.W.sorted_of_sort hL.isList hz1 ha1 ha2 fun E' => ?_
  rw [ht]
  unfold ksk_tree
  have ho := PySem.W.copyHeap_at s.heap its
  obtain ⟨c0, ho1⟩ : ∃ c, ((PySem.W.copyHeap s.heap its).update (s.heap.objs.size + 1) (Obj.mapSeq fun _ => (#[] : Array Value))).get? (s.heap.objs.size + 1) = some (seqObj "list" #[] c) := ⟨_, get?_update_seq ho fun _ => #[]⟩
  refine wpAny_bind (listItems_at ho rfl ?_)
  refine wpAny_bind (listUpdate_at ho rfl ?_ (by rw [List.size_toArray]; exact hz1) (Nat.zero_le _))
  refine wpAny_bind (seqEpoch_at ho1 rfl ?_)
  refine wpAny_bind (wpAny_newTuple ?_ (by show its.length ≤ _; exact hz1))
  refine wpAny_bind (wpAny_newList ?_ (Nat.zero_le _))
  refine wpAny_holding ?_
  obtain ⟨a, ea⟩ : ∃ a, a = s.heap.objs.size + 1 := ⟨_, rfl⟩
  obtain ⟨kS, ek⟩ : ∃ kS, kS = (((PySem.W.copyHeap s.heap its).update (s.heap.objs.size + 1) (Obj.mapSeq fun _ => (#[] : Array Value))).push { cls := .type "tuple", data := .seq its.toArray }).objs.size := ⟨_, rfl⟩
  have hcs : (PySem.W.copyHeap s.heap its).objs.size = s.heap.objs.size + 2 := by
    unfold PySem.W.copyHeap
    rw [size_push', Heap.size_update, size_push']
  have ek2 : kS = s.heap.objs.size + 3 := by rw [ek, size_push', Heap.size_update, hcs]
  have keep0 : ∀ b o, s.heap.get? b = some o → (PySem.W.sortingHeap (PySem.W.copyHeap s.heap its) (s.heap.objs.size + 1) its).get? b = some o := fun b o e => PySem.W.sorting_copy_old e
  show wpAny (model X.prog X.w) X.A.in1.in1 _ _ E' { s with heap := PySem.W.sortingHeap (PySem.W.copyHeap s.heap its) (s.heap.objs.size + 1) its }
  have oa : (PySem.W.sortingHeap (PySem.W.copyHeap s.heap its) (s.heap.objs.size + 1) its).get? a = some (seqObj "list" #[] c0) := by
    rw [ea]
    exact Heap.get?_push_of_some _ (Heap.get?_push_of_some _ ho1)
  have ok : (PySem.W.sortingHeap (PySem.W.copyHeap s.heap its) (s.heap.objs.size + 1) its).get? kS = some (seqObj "list" #[] 0) := by
    rw [ek]
    exact Heap.get?_push_size _ rfl
  rw [← ek, ← ea]
  have I0 : Inv X pins σ H { s with heap := PySem.W.sortingHeap (PySem.W.copyHeap s.heap its) a its, toks := s.toks } := by
    rw [ea]
    exact I.kept keep0
  have hak : a ≠ kS := by omega
  have na : s.heap.objs.size ≤ a := by omega
  have nk : s.heap.objs.size ≤ kS := by omega
  have ltL : X.env.locals < s.heap.objs.size := I.lt
  have frk : ∀ c, s.heap.objs.size ≤ c → H c = none ∧ c ≠ X.env.locals ∧ c ∉ X.fs ∧ (∀ y d, X.env.cells.lookup y = some d → d ≠ c) ∧ X.s_0.heap.objs.size ≤ c ∧ ∀ p ∈ X.pn ++ pins, p.1 ≠ c := fun c hc =>
    ⟨I.hok.fresh hc, Nat.ne_of_gt (Nat.lt_of_lt_of_le ltL hc), I.nofs hc, fun y d e => by
      obtain ⟨v, o, h1, _⟩ := I.cell y d e
      exact Nat.ne_of_lt (Nat.lt_of_lt_of_le (Heap.lt_size h1) hc), Nat.le_trans I.sz hc, fun p hp => Nat.ne_of_lt (Nat.lt_of_lt_of_le (Heap.lt_size (I.pin p hp).1) hc)⟩
  have fa := frk a na
  have fk := frk kS nk
  unfold ksk_rest
  refine wpAny_bind (wpAny_rule ?_)
  first
    | rw [List.forIn_toArray]
    | (rw [← Array.forIn_toList]; simp only [List.toList_toArray])
  refine wpAny_bind (ksk_fold (fun i s' => ∃ ks H1 kA e, Inv X (pins ++ [(a, seqObj "list" #[] c0), (kS, seqObj "list" kA e)]) σ H1 s' ∧ J ks H1 ∧ ks.length = i ∧ Vals ks kA.toList) its 0 _ ?_ ?_ ?_)
  · refine ⟨[], H, #[], 0, I0.pins_of fun p hp => ?_, j0, rfl, .nil⟩
    rcases List.mem_append.mp hp with hp | hp
    · obtain ⟨h1, h2, h3, h4, h5⟩ := I0.pin p (List.mem_append_right _ hp)
      exact ⟨h1, h2, h3, h4, h5⟩
    · simp only [List.mem_cons, List.not_mem_nil, or_false] at hp
      rcases hp with rfl | rfl
      · exact ⟨by rw [← ea] at oa; exact oa, fa.1, fa.2.1, fa.2.2.1, fun v z => nomatch z⟩
      · exact ⟨by rw [← ea] at ok; exact ok, fk.1, fk.2.1, fk.2.2.1, fun v z => nomatch z⟩
  · rintro j u s' hj ⟨ks, H1, kA, e, I1, j1, el, rk⟩
    rw [Nat.zero_add] at el
    obtain ⟨x, hx, rx⟩ := vals_get rv hj
    have hjl : j < its.length := (List.getElem?_eq_some_iff.mp hj).1
    refine wpAny_bind (wpAny_attempt (wpAny_mono (turn ks x u H1 _ s' (fun v H2 => J (ks ++ [v]) H2) (by rw [el]; exact hx) rx (fun p hp => List.mem_append_left _ hp) I1 j1 fun v H2 q => q) (fun w s2 hq => ?_) fun _ _ z => z.elim))
    obtain ⟨v, H2, I2, rw2, j2⟩ := hq
    dsimp only
    obtain ⟨pk1, pk2, pk3, pk4, pk5⟩ := I2.pin (kS, seqObj "list" kA e) (by simp)
    obtain ⟨pa1, pa2, pa3, pa4, pa5⟩ := I2.pin (a, seqObj "list" #[] c0) (by simp)
    have hkA : kA.size = j := by
      have := rk.length
      rw [el, Array.length_toList] at this
      exact this.symm
    have hsz1 : kA.size ≤ sizeLine := by omega
    have sb := Heap.SameBut.update s2.heap kS (Obj.mapSeq (·.push w))
    obtain ⟨c2, hc2⟩ : ∃ c2, (s2.heap.update kS (Obj.mapSeq (·.push w))).get? kS = some (seqObj "list" (kA.push w) c2) := ⟨_, get?_update_seq pk1 (·.push w)⟩
    refine wpAny_bind (listUpdate_at pk1 rfl ?_ hsz1 (by rw [Array.size_push]; omega))
    refine wpAny_pure ⟨rfl, ks ++ [v], H2, kA.push w, c2, ?_, j2, by simp [el], by
      rw [Array.toList_push]
      exact vals_snoc rw2 rk⟩
    have I3 : Inv X (pins ++ [(a, seqObj "list" #[] c0)]) σ H2 s2 := I2.pins_of fun p hp => by
      refine I2.pin p (List.mem_append_right _ ?_)
      rcases List.mem_append.mp hp with hp | hp
      · exact List.mem_append_left _ hp
      · exact List.mem_append_right _ (by simp only [List.mem_cons, List.not_mem_nil, or_false] at hp; rw [hp]; simp)
    have I4 := I3.turned (t' := s2.toks) (it := kS) (h' := s2.heap.update kS (Obj.mapSeq (·.push w))) (fun b o hb q => (sb.2 b hb).trans q) pk2 pk3 (.inr fk.2.2.2.2.1) fk.2.2.2.1 fun p hp => by
      rcases List.mem_append.mp hp with hp | hp
      · exact fk.2.2.2.2.2 p (List.mem_append_left _ hp)
      · rcases List.mem_append.mp hp with hp | hp
        · exact fk.2.2.2.2.2 p (List.mem_append_right _ hp)
        · simp only [List.mem_cons, List.not_mem_nil, or_false] at hp
          rw [hp]
          exact hak
    refine I4.pins_of fun p hp => ?_
    rcases List.mem_append.mp hp with hp | hp
    · exact I4.pin p (List.mem_append_right _ (List.mem_append_left _ hp))
    · simp only [List.mem_cons, List.not_mem_nil, or_false] at hp
      rcases hp with rfl | rfl
      · exact I4.pin (a, seqObj "list" #[] c0) (by simp)
      · exact ⟨hc2, pk2, pk3, pk4, fun v z => nomatch z⟩
  · rintro s' ⟨ks, H1, kA, e, I1, j1, el, rk⟩
    rw [Nat.zero_add] at el
    have elx : ks.length = xs.length := by rw [el, ← rv.length]
    obtain ⟨pk1, pk2, pk3, pk4, pk5⟩ := I1.pin (kS, seqObj "list" kA e) (by simp)
    obtain ⟨pa1, pa2, pa3, pa4, pa5⟩ := I1.pin (a, seqObj "list" #[] c0) (by simp)
    have hkA : kA.size = its.length := by
      have := rk.length
      rw [el, Array.length_toList] at this
      exact this.symm
    have er : PySem.W.EachIs (fun v d => ∃ as, Reads s'.heap v d as) kA.toList kz := dps_at (dp ks H1 j1 elx) rk fun v u d q r => Dp.reads I1 d v u q r
    refine wpAny_bind (listItems_at pk1 rfl ?_)
    have kp : PySem.W.KeepsBut a (lessAt s'.heap kS) s'.heap := fun b o hb q => by
      by_cases z : b = kS
      · rw [z, lessAt_no] at q
        cases q
      · rwa [lessAt_ne _ z] at q
    refine PySem.W.keyH_end (κ := PySem.W.dataKind s'.heap kz) (h₁ := lessAt s'.heap kS) kp (lessAt_no _ _) pk1 pa1 hak.symm (PySem.W.SortsAt.data er hal hsk fun d hd => hu d hd) hkA hz1 fun h' tk c kp2 oa2 => ⟨rfl, ?_⟩
    have out := PySem.W.keyedOut_each (R := fun (u : Value) (p : V × PyData) => RelV p.1 u) (bs := xs.zip kz) (rev := false) Prod.snd ⟨s'.heap, kA.toList, by rw [zip_snd hkl]; exact hal, by rw [zip_snd hkl], by rw [zip_snd hkl]; exact er⟩ (each_zip rv kz hkl)
    have vo := vals_of_each out
    have kb : ∀ b o, b ≠ a → b ≠ kS → s'.heap.get? b = some o → h'.get? b = some o := fun b o h1 h2 q => kp2 b o h1 (by rw [lessAt_ne _ h2]; exact q)
    have nb : ∀ b o, H1 b = some o → b ≠ a ∧ b ≠ kS := fun b o q => ⟨fun z => (by rw [z, pa2] at q; cases q), fun z => (by rw [z, pk2] at q; cases q)⟩
    have I5 : Inv X pins σ H1 s' := I1.pins_of fun p hp => I1.pin p (List.mem_append_right _ (List.mem_append_left _ hp))
    have hlen : ((sortP (xs.zip kz)).map Prod.fst).length ≤ sizeLine := by
      unfold sortP
      rw [List.length_map, List.length_mergeSort, List.length_zip, hkl, Nat.min_self, rv.length]
      exact hz1
    have hch : ∀ b ∈ [a, kS], s.heap.objs.size ≤ b := fun b hb => by
      simp only [List.mem_cons, List.not_mem_nil, or_false] at hb
      rcases hb with rfl | rfl <;> omega
    have nch : ∀ b, b ∉ [a, kS] → b ≠ a ∧ b ≠ kS := fun b hb => by
      simp only [List.mem_cons, List.not_mem_nil, or_false, not_or] at hb
      exact hb
    refine ⟨.ref a, upd H1 a (.lst ((sortP (xs.zip kz)).map Prod.fst)), ?_, by rw [ea]; rfl, done ks H1 a j1 fa.1 pa2⟩
    refine I5.step (g' := s'.gens) (d' := s'.drawn) (t' := tk) (ch := [a, kS]) (fun b hb => ?_) (fun b o _ _ hc q _ => kb b o (nch b hc).1 (nch b hc).2 q) (fun b o _ _ hc q _ => ⟨o.slots, kb b o (nch b hc).1 (nch b hc).2 q⟩) (fun b o hc _ q => by rw [upd_ne (nch b hc).1]; exact q)
      (fun b o hc q => ⟨o, kb b o (nch b hc).1 (nch b hc).2 q⟩) (fun b ys q => by rw [upd_ne (nb b _ q).1]; exact q) (fun b o u q => by rw [upd_ne (nb b _ q).1]; exact q) (fun b ps q => ⟨#[], by rw [upd_ne (nb b _ q).1, q]; simp⟩) (fun m hm => ?_) (fun b u q => ?_) I5.bare
    · have h1 := frk b (hch b hb)
      exact ⟨.inr h1.2.2.2.2.1, h1.2.1, h1.2.2.2.1, h1.2.2.2.2.2⟩
    · obtain ⟨o, es, ep, h1, r⟩ := hm
      exact ⟨o, es, ep, kb _ o (by omega) (by omega) h1, r⟩
    · by_cases hb : b = a
      · rw [hb, upd_same] at q
        cases q
        rw [hb]
        exact ⟨hlen, _, _, vo, oa2⟩
      · rw [upd_ne hb] at q
        refine (I5.hok b u q).stay (fun d v hd z => kb d v ?_ ?_ z) (fun d z => by rw [upd_ne (nb d _ z).1]; exact z) fun d ys z => by rw [upd_ne (nb d _ z).1]; exact z
        · rcases hd with rfl | hd
          · exact hb
          · exact (nb d _ hd).1
        · rcases hd with rfl | hd
          · exact (nb d _ q).2
          · exact (nb d _ hd).2
end
/-- f(x) gives the key of x, whatever has come to be since; P0 stay pinned -/
def KeyFn (X : Cx) (κ : Kx) (σ : L2.St) (f : Value) (P0 : List (Addr × Obj)) (key : D → Option D) (H0 G0 : Hp) : Prop :=
  ∀ (H1 G1 : Hp) (pins1 : List (Addr × Obj)) (s1 : Shared) (x : V) (u : Value) (d k : D) (P : VK), Grw H0 H1 → Same G0 G1 → Sub κ G1 H1 → (∀ p ∈ P0, p ∈ pins1) → Inv X pins1 σ H1 s1 → RelV x u → Rp κ G1 x d → key d = some k →
    (∀ v H2 G2, Grw H1 H2 → Same G1 G2 → Sub κ G2 H2 → (∀ a o, H1 a = some o → G1 a = none → G2 a = none) → Rp κ G2 v k → P v H2) → wpAny (model X.prog X.w) X.A.in1.in1 (call f [u]) (EP X pins1 σ P) (fun _ _ => False) s1
def keysOf (key : D → Option D) : List D → Option (List D)
  | [] => some []
  | d :: ds => match key d, keysOf key ds with
    | some k, some ks => some (k :: ks)
    | _, _ => none
def okKs (ks : List D) : Prop := (∀ k ∈ ks, k.pl = true ∧ k.toP.depth ≤ 64) ∧ PySem.W.AllAlike (ks.map D.toP) ∧ PySem.W.Sortable (ks.map D.toP)
noncomputable def sortD (ds ks : List D) : List D := (sortP (ds.zip (ks.map D.toP))).map Prod.fst
theorem keysOf_len {key : D → Option D} : ∀ {ds ks : List D}, keysOf key ds = some ks → ks.length = ds.length
  | [], ks, e => by cases e; rfl
  | d :: ds, ks, e => by
    unfold keysOf at e
    split at e
    · cases e
      rename_i h
      simp [keysOf_len h]
    · cases e
theorem keysOf_at {key : D → Option D} : ∀ {ds ks : List D}, keysOf key ds = some ks → ∀ (i : Nat) (d : D), ds[i]? = some d → ∃ k, key d = some k ∧ ks[i]? = some k
  | [], ks, e, i, d, h => by simp at h
  | d0 :: ds, ks, e, i, d, h => by
    unfold keysOf at e
    split at e
    · rename_i k1 ks1 h1 h2
      cases e
      cases i with
      | zero =>
        simp only [List.getElem?_cons_zero, Option.some.injEq] at h
        subst h
        exact ⟨k1, h1, rfl⟩
      | succ i =>
        simp only [List.getElem?_cons_succ] at h ⊢
        exact keysOf_at h2 i d h
    · cases e
theorem toPA_eq : ∀ l : List D, toPA l = l.map D.toP
  | [] => rfl
  | d :: l => by rw [toPA, toPA_eq l]; rfl
theorem plA_all : ∀ {l : List D}, (∀ d ∈ l, d.pl = true) → plA l = true
  | [], _ => rfl
  | d :: l, h => by simp only [plA, h d List.mem_cons_self, plA_all fun x m => h x (List.mem_cons_of_mem _ m), Bool.and_self]
theorem RpA.at {κ : Kx} {G : Hp} : ∀ {xs : List V} {ds : List D}, RpA κ G xs ds → ∀ {i : Nat} {x : V}, xs[i]? = some x → ∃ d, ds[i]? = some d ∧ Rp κ G x d
  | _, _, .nil, i, x, e => by simp at e
  | _, _, .cons r t, 0, x, e => by
    simp only [List.getElem?_cons_zero, Option.some.injEq] at e
    subst e
    exact ⟨_, rfl, r⟩
  | _, _, .cons r t, i + 1, x, e => by
    simp only [List.getElem?_cons_succ] at e
    exact RpA.at t e
theorem RpA.push {κ : Kx} {G : Hp} {v : V} {d : D} (r : Rp κ G v d) : ∀ {xs : List V} {ds : List D}, RpA κ G xs ds → RpA κ G (xs ++ [v]) (ds ++ [d])
  | _, _, .nil => .cons r .nil
  | _, _, .cons q t => .cons q (RpA.push r t)
theorem RpA.zipm {κ : Kx} {G : Hp} : ∀ {xs : List V} {ds : List D}, RpA κ G xs ds → ∀ p ∈ xs.zip ds, Rp κ G p.1 p.2
  | _, _, .nil, p, m => by simp at m
  | _, _, .cons r t, p, m => by
    rcases List.mem_cons.mp (show p ∈ _ :: _ from m) with rfl | m
    · exact r
    · exact RpA.zipm t p m
theorem RpA.of_all {κ : Kx} {G : Hp} {α : Type} (f : α → V) (g : α → D) : ∀ {l : List α}, (∀ t ∈ l, Rp κ G (f t) (g t)) → RpA κ G (l.map f) (l.map g)
  | [], _ => .nil
  | t :: l, h => .cons (h t List.mem_cons_self) (RpA.of_all f g fun t m => h t (List.mem_cons_of_mem _ m))
theorem sortP_map {α β : Type} (f : α → β) (l : List (α × PyData)) : (sortP l).map (fun t => (f t.1, t.2)) = sortP (l.map fun t => (f t.1, t.2)) :=
  List.map_mergeSort fun _ _ _ _ => rfl
theorem zip3_l {α β γ : Type} : ∀ {xs : List α} {ds : List β} {kz : List γ}, xs.length = ds.length → ((xs.zip ds).zip kz).map (fun t => (t.1.1, t.2)) = xs.zip kz
  | [], _, _, _ => rfl
  | _ :: _, [], _, h => by simp at h
  | _ :: _, _ :: _, [], _ => rfl
  | x :: xs, d :: ds, k :: kz, h => by
    show (x, k) :: ((xs.zip ds).zip kz).map _ = (x, k) :: xs.zip kz
    rw [zip3_l (by simpa using h)]
theorem zip3_r {α β γ : Type} : ∀ {xs : List α} {ds : List β} {kz : List γ}, xs.length = ds.length → ((xs.zip ds).zip kz).map (fun t => (t.1.2, t.2)) = ds.zip kz
  | [], [], _, _ => rfl
  | [], _ :: _, _, h => by simp at h
  | _ :: _, [], _, h => by simp at h
  | _ :: _, _ :: _, [], _ => rfl
  | x :: xs, d :: ds, k :: kz, h => by
    show (d, k) :: ((xs.zip ds).zip kz).map _ = (d, k) :: ds.zip kz
    rw [zip3_r (by simpa using h)]
theorem RpA.llen {κ : Kx} {G : Hp} : ∀ {xs : List V} {ds : List D}, RpA κ G xs ds → xs.length = ds.length
  | _, _, .nil => rfl
  | _, _, .cons _ t => by simp [t.llen]
theorem sort_rel {κ : Kx} {G : Hp} {xs : List V} {ds : List D} (r : RpA κ G xs ds) (kz : List PyData) : RpA κ G ((sortP (xs.zip kz)).map Prod.fst) ((sortP (ds.zip kz)).map Prod.fst) := by
  have hl := r.llen
  rw [← zip3_l (kz := kz) hl, ← zip3_r (kz := kz) hl, ← sortP_map (f := Prod.fst), ← sortP_map (f := Prod.snd), List.map_map, List.map_map]
  refine RpA.of_all _ _ fun t m => ?_
  have m2 : t ∈ (xs.zip ds).zip kz := (List.mergeSort_perm _ _).mem_iff.mp m
  exact r.zipm _ (List.of_mem_zip (a := t.1) (b := t.2) m2).1
section
variable {X : Cx} {pins : List (Addr × Obj)} {σ : L2.St} {H G : Hp} {s : Shared} {κ : Kx}
theorem sort_keyed {f : Value} {l : Addr} {xs : List V} {ds ks : List D} {key : D → Option D} {Q : VK} {kw : List (Str × Value)} {E : Value → Shared → Prop} (I : Inv X pins σ H s) (hK : X.K = κ.K) (hs : SqL X.K H l xs) (sg : Sub κ G H) (hx : RpA κ G xs ds) (kf : KeyFn X κ σ f pins key H G)
    (hk : keysOf key ds = some ks) (ok : okKs ks) (hu : X.A.units + 66 < cLine) (ha1 : argsOk "sorted" ⟨[.ref l], kw⟩) (ha2 : ∀ x, argsOk "list.sort" ⟨[.ref x], kw⟩) (ht : ∀ x, Builtin.«list.sort» ⟨[.ref x], kw⟩ = ksk_tree x f false)
    (done : ∀ p ys H' G', Grw H H' → Same G G' → Sub κ G' H' → (∀ a o, H a = some o → G a = none → G' a = none) → H p = none → H' p = none → RpA κ G' ys (sortD ds ks) → Q (.ref p) (upd H' p (.lst ys))) :
    wpAny (model X.prog X.w) X.A (call (.builtin "sorted") [.ref l] kw) (EP X pins σ Q) E s := by
  have hl := hx.llen
  have kl := keysOf_len hk
  refine sort_core (kz := ks.map D.toP) (J := fun vs H' => ∃ G', Grw H H' ∧ Same G G' ∧ Sub κ G' H' ∧ (∀ a o, H a = some o → G a = none → G' a = none) ∧ RpA κ G' vs (ks.take vs.length)) I hs (by rw [List.length_map]; omega) ok.2.1 ok.2.2 (fun d m => ?_) ha1 ha2 ht ⟨G, Grw.refl _, Same.refl _, sg, fun _ _ _ h => h, .nil⟩ (fun vs x u H1 pins1 s1 P e rx hp I1 hJ hP => ?_) (fun vs H1 hJ el => ?_) (fun vs H1 p hJ hp h1p => ?_)
  · obtain ⟨k, mk, rfl⟩ := List.mem_map.mp m
    have := (ok.1 k mk).2
    omega
  · obtain ⟨G1, s1', g1, sb, gn, rv⟩ := hJ
    obtain ⟨d, e1, rd⟩ := hx.at e
    obtain ⟨k, e2, e3⟩ := keysOf_at hk _ _ e1
    refine kf H1 G1 pins1 s1 x u d k P s1' g1 sb hp I1 rx (rd.mono g1) e2 fun v H2 G2 s2 g2 sb2 gn2 rk => hP v H2 ⟨G2, s1'.trans s2, g1.trans g2, sb2, fun a o h g => (by
      obtain ⟨o', h', _⟩ := s1' a o h
      exact gn2 a o' h' (gn a o h g)), ?_⟩
    have et : ks.take (vs ++ [v]).length = ks.take vs.length ++ [k] := by
      rw [List.length_append, List.length_singleton, List.take_add_one, e3]
      rfl
    rw [et]
    exact RpA.push rk (rv.mono g2)
  · obtain ⟨G1, s1', g1, sb, gn, rv⟩ := hJ
    rw [el, hl, ← kl, List.take_length] at rv
    rw [hK, ← toPA_eq]
    exact rv.dp sb.s (plA_all fun d m => (ok.1 d m).1)
  · obtain ⟨G1, s1', g1, sb, gn, rv⟩ := hJ
    exact done p _ H1 G1 s1' g1 sb gn hp h1p (sort_rel (hx.mono g1) _)
end
/-! ### key=o.m, a bound method -/
def tBd (K : PySem.W.Frag) (m : Str) (to : TE) : TE := fun σ H Q => to σ H fun x H1 => ∃ a C dx fs g, x = .ref a ∧ H1 a = some (.ins C dx fs) ∧ Cls K C ∧ BMeth K C m g ∧ fs.lookup m = none ∧ ∀ q, H1 q = none → Q (.ref q) (upd H1 q (.met g a))
theorem pe_bd {X : Cx} {o : Expr} {to : TE} {m : Str} {pos : Pos} (ho : PE X o to) (hb : attributeBase o m X.env (eval o X.env) = eval o X.env := by rfl) : PE X (.Attribute o m pos) (tBd X.K m to) := by
  refine ⟨fun pins s σ H Q I h => attr_of hb (thn (ho.run pins s σ H _ I h) fun u s1 ⟨x, H1, I1, rx, a, C, dx, fs, g, ex, ea, c, n, l, q⟩ => ?_)⟩
  subst ex
  exact op_getbound I1 ea c n l rx q
def keyM (gs : Nat → Option FSem) (o : D) : D → Option D := fun d => match o with
  | .ob c _ => match gs c with
    | some g => match g [o, d] with
      | some (.rt (.sh k)) => some k
      | _ => none
    | none => none
  | _ => none
open Classical in
noncomputable def opSort (key : D → Option D) (l : List D) : Option (List D) := match keysOf key l with
  | some ks => if okKs ks then some (sortD l ks) else none
  | none => none
noncomputable def fSortB (gs : Nat → Option FSem) (m mo : Sm D) : Sm Rs := bnd m fun d => bnd mo fun o e => match d, o with
  | .lst l, .ob c fl => match gs c with
    | some _ => match opSort (keyM gs (.ob c fl)) l with
      | some r => some (.ok (.ow r) e)
      | none => none
    | none => none
  | _, _ => none
theorem grow_fr {κ : Kx} {σ : L2.St} {H H' : Hp} {G : Gh} {G' : Hp} {env : En} (r : Rep κ H G σ env) (s : Grw H H') (g1 : Same G.g G') (g2 : Sub κ G' H') (gn : ∀ a o, H a = some o → G.g a = none → G' a = none) : Rep κ H' ⟨G', G.fp⟩ σ env ∧ Fr H G σ env H' ⟨G', G.fp⟩ σ env :=
  ⟨r.grow (G' := ⟨G', G.fp⟩) s g1 g2 (fun _ => rfl) fun i a o => (by
    obtain ⟨⟨u, h⟩, g0⟩ := r.own o
    exact gn a _ h g0), Fr.same s g1 (fun a o h g0 _ => gn a o h g0) (fun _ _ _ h => h) fun _ _ _ h => ⟨h, rfl⟩⟩
def VB (κ : Kx) (m : Str) (gs : Nat → Option FSem) : Prop := ∀ c g, gs c = some g → ∃ f, BMeth κ.K (κ.cl c) m f
/-- what sorted(l, key=q) wants -/
def rSK (X : Cx) (κ : Kx) : List V → List V → Hp → VK → Prop := fun vs zs H Q => ∃ (l q : Addr) (xs : List V) (ds ks : List D) (G : Hp) (key : D → Option D), vs = [.ref l] ∧ zs = [.ref q] ∧ SqL X.K H l xs ∧ Sub κ G H ∧ RpA κ G xs ds ∧ (∀ pins σ, KeyFn X κ σ (.ref q) pins key H G) ∧ keysOf key ds = some ks ∧ okKs ks ∧
  ∀ p ys H' G', Grw H H' → Same G G' → Sub κ G' H' → (∀ a o, H a = some o → G a = none → G' a = none) → H p = none → H' p = none → RpA κ G' ys (sortD ds ks) → Q (.ref p) (upd H' p (.lst ys))
theorem cr_sortK {X : Cx} {κ : Kx} (hK : X.K = κ.K) (hu : X.A.units + 66 < cLine) : CallRK X (.builtin "sorted") [Str.ofString "key"] (rSK X κ) := by
  intro pins s σ H vs zs us ws Q I r rz h
  obtain ⟨l, q, xs, ds, ks, G, key, rfl, rfl, hs, sg, hx, kf, hk, ok, done⟩ := h
  obtain rfl := Vals.ref1 r
  obtain rfl := Vals.ref1 rz
  exact sort_keyed I hK hs sg hx (kf pins σ) hk ok hu (ksk_s1 _ _) (fun _ => ksk_l1 _ _) (fun x => ksk_t1 q x) done
section
variable {X : Cx} {κ : Kx} {W : WX} {e o : Expr} {gs : Nat → Option FSem} {me mo : Sm D} {k : Nat} {m : Str} {p pos apos kpos : Pos}
theorem keyM_fn {H G : Hp} {q a f : Addr} {c j : Nat} {l : List D} {g : FSem} {fd : FuncData} {ps : List Str} (hK : X.K = κ.K) (hr : Room (j + 2) X.A) (hg : gs c = some g) (F : FnOk X.prog X.w X.K X.mg X.base (L2.CX X.prog X.w) j f fd ps (spV κ [false, false] g)) (hb : Binds X.K fd ps [])
    (hq : H q = some (.met f a)) (ro : Rp κ G (.ref a) (.ob c l)) (pins : List (Addr × Obj)) (σ : L2.St) : KeyFn X κ σ (.ref q) pins (keyM gs (.ob c l)) H G := by
  intro H1 G1 pins1 s1 x u d k P sh sg sb _ I1 rx rd hk hP
  have hk' : g [.ob c l, d] = some (.rt (.sh k)) := by
    unfold keyM at hk
    simp only [hg] at hk
    split at hk
    · rename_i h
      cases hk
      exact h
    · cases hk
  have hsp : spV κ [false, false] g [.ref a, x] H1 P (fun _ _ _ => False) := ⟨G1, [.ob c l, d], sb, .sh (ro.mono sg) (.sh rd .nil), by
    rw [hk']
    exact fun v H2 G2 h1 h2 h3 h4 h5 => hP v H2 G2 h1 h2 h3 h4 h5⟩
  have hv : Vals [V.ref a, x] [.ref a, u] := .cons rfl (.cons rx .nil)
  have hl : [Value.ref a, u].length = ps.length := F.len _ _ _ _ hsp
  have b := hb s1 [.ref a, u] I1.kIn (by rw [List.append_nil]; exact hl)
  rw [List.append_nil] at b
  refine wpAny_call (call_met I1 (sh.at hq) (codeAny_mono (F.run X.A.in1.in1 X.stack s1 H1 ⟨[.ref a, u], []⟩ [.ref a, u] [.ref a, x] P (fun _ _ _ => False) hr.in1.in1 I1.env0.in1.in1 b hv hsp) fun r s' hq' => ?_))
  cases r with
  | error e =>
    obtain ⟨_, _, _, _, _, _, _, _, _, _, _, _, _, _, _, _, z⟩ := hq'
  | ok fl =>
    cases fl with
    | ret u => exact I1.after hq'
    | next => exact False.elim hq'
    | brk => exact False.elim hq'
    | cont => exact False.elim hq'
theorem v_sortB (F : VMs X.prog X.w κ X.mg X.base m k [false] gs) (B : VB κ m gs) (hK : X.K = κ.K) (hr : Room (k + 2) X.A) (hg : Gl X "sorted") (hm : X.mg "sorted" = none) (he : PE X e (tX κ W (RB κ) me)) (ho : PE X o (tX κ W (RP κ) mo))
    (hbase : attributeBase o m X.env (eval o X.env) = eval o X.env := by rfl) (h1 : backTo pos (starEach [e] X.env) = (false, eval e X.env) :: backTo pos (starEach [] X.env) := by rfl) (hpl : (backTo pos (starEach [e] X.env)).any (·.1) = false := by rfl)
    (hall : (backToKw pos (keywordEach [⟨some "key", .Attribute o m apos, kpos⟩] X.env)).all (·.1.isSome) = true := by rfl) (hnone : (backToKw pos (keywordEach [⟨some "key", .Attribute o m apos, kpos⟩] X.env)).any (·.1.isNone) = false := by rfl)
    (hks : (backToKw pos (keywordEach [⟨some "key", .Attribute o m apos, kpos⟩] X.env)).filterMap (·.1) = [Str.ofString "key"] := by rfl) (hst : starEach [e] X.env = (false, eval e X.env) :: starEach [] X.env := by rfl)
    (hv : bootBuiltins "sorted" = some (.builtin "sorted") := by decide +kernel) :
    PE X (.Call (.Name "sorted" p) [e] [⟨some "key", .Attribute o m apos, kpos⟩] pos) (tX κ W (RV κ) (fSortB gs me mo)) := by
  refine PE.imp (pe_callBK (r := rSK X κ) (cr_sortK hK (by have := hr.un; omega)) hg hm hv (pa_cons he pa_nil hst) (pk_cons (pe_bd ho hbase) pk_nil) (by decide) (by decide) h1 hpl hall hnone hks) fun σ H Q ⟨G, env, rp, q⟩ => ?_
  refine bind_post rp q fun d e1 x H1 G1 _ rp1 rx s1 f1 q1 => ?_
  refine bind_post rp1 q1 fun oo e2 y H2 G2 _ rp2 ry s2 f2 q2 => ?_
  cases d with
  | lst l => cases oo with
    | ob c fl =>
      dsimp only at q2
      cases hgs : gs c with
      | none => rw [hgs] at q2; exact q2.elim
      | some g =>
        rw [hgs] at q2
        dsimp only at q2
        cases z : opSort (keyM gs (.ob c fl)) l with
        | none => rw [z] at q2; exact q2.elim
        | some r =>
          rw [z] at q2
          dsimp only at q2
          unfold opSort at z
          cases zk : keysOf (keyM gs (.ob c fl)) l with
          | none => rw [zk] at z; cases z
          | some ks =>
            rw [zk] at z
            dsimp only at z
            split at z
            · rename_i hok
              cases z
              obtain ⟨a, xs, rfl, h2, h3⟩ := (RBq.mono s2 f2.gk rx).lst rp2.sub
              obtain ⟨j, hj, M⟩ := F c g hgs
              obtain ⟨f, fd, ps, k1, k2, k3, k4, k5⟩ := M.ex
              obtain ⟨f', b⟩ := B c g hgs
              have ef : f' = f := by
                have h := b.mt.at_
                rw [k2.at_] at h
                cases h
                rfl
              subst ef
              cases ry with
              | ob g1 g2 g3 =>
                rename_i a' dx fs
                have hq1 := rp2.sub _ _ g1
                refine ⟨a', _, dx, fs, f', rfl, hq1, by rw [hK]; exact k1, by rw [hK]; exact b, lookup_out g2 k3, fun qa hqa => ?_⟩
                have gq := rp2.sub.none hqa
                have sn : Same H2 (upd H2 qa (.met f' a')) := same_new hqa
                refine ⟨a, qa, xs, l, ks, G2.g, keyM gs (.ob c fl), rfl, rfl, SqL.of (sn _ _ h2), rp2.sub.new hqa, h3, fun pins σ => keyM_fn (j := j) hK (hr.mono (by omega)) hgs (by rw [hK]; exact k4) (by rw [hK]; exact k5) upd_same (.ob g1 g2 g3) pins σ, zk, hok, fun p ys H' G' sh sg sb gn hp h1p rys => ?_⟩
                obtain ⟨r5, f5⟩ := grow_fr rp2 ((gr sn).trans sh) sg sb fun a o h g => gn a o (sn _ _ h) g
                obtain ⟨st, rv⟩ := new_ow r5 h1p rys
                exact q2 _ _ _ st.rep (RlMono.mono (fun _ n => n.shift f5) rv) (((gr sn).trans sh).trans st.same) (f5.trans st.fr)
            · cases z
    | _ => exact q2.elim
  | _ => exact q2.elim
end
/-! ### xs.remove(e), texts -/
def eqS (k : Str) (v : Value) : Bool := match v with
  | .str n _ => n.cps.toList == k.cps.toList
  | _ => false
def rRemS : V → List V → Hp → VK → Prop := fun x xs H Q => ∃ (l : Addr) (ws : List (List Nat)) (k : List Nat) (j : Nat), x = .ref l ∧ xs = [.str (S k)] ∧ H l = some (.lst ((ws.map S).map V.str)) ∧ ws[j]? = some k ∧ (∀ m : Nat, m < j → ws[m]? ≠ some k) ∧ Q .non (upd H l (.lst (((ws.eraseIdx j).map S).map V.str)))
theorem map_er {α β : Type} (f : α → β) : ∀ (l : List α) (j : Nat), (l.eraseIdx j).map f = (l.map f).eraseIdx j
  | [], _ => rfl
  | _ :: _, 0 => rfl
  | x :: l, j + 1 => by
    show f x :: (l.eraseIdx j).map f = f x :: (l.map f).eraseIdx j
    rw [map_er f l j]
theorem RpA.strs2 {κ : Kx} {G : Hp} : ∀ l : List (List Nat), RpA κ G ((l.map S).map V.str) (l.map D.str)
  | [] => .nil
  | w :: l => .cons (.str w) (RpA.strs2 l)
theorem strs_get : ∀ {ws : List (List Nat)} {us : List Value}, Vals ((ws.map S).map V.str) us → ∀ (i : Nat) (u : Value), us[i]? = some u → ∃ w t, ws[i]? = some w ∧ u = .str (S w) t
  | [], _, .nil, i, u, e => by simp at e
  | w :: ws, _, .cons r t, 0, u, e => by
    simp only [List.getElem?_cons_zero, Option.some.injEq] at e
    subst e
    obtain ⟨tk, rfl⟩ := r
    exact ⟨w, tk, rfl, rfl⟩
  | w :: ws, _, .cons r t, i + 1, u, e => by
    simp only [List.getElem?_cons_succ] at e ⊢
    exact strs_get t i u e
theorem mt_removeS {X : Cx} : MtM X "list.remove" rRemS := by
  intro pins s σ H x xs v us Q I rx rxs h
  obtain ⟨l, ws, k, j, rfl, rfl, hH, hj, hno, q⟩ := h
  cases rx
  obtain ⟨u, rfl, ru⟩ := rxs.one
  obtain ⟨t, rfl⟩ := ru
  obtain ⟨z, its, n, r, hl, e⟩ := I.lstM hH
  rw [List.length_map, List.length_map] at hl z
  have hjn : j < ws.length := (List.getElem?_eq_some_iff.mp hj).1
  have hjl : j < its.toArray.size := by rw [List.size_toArray]; omega
  have item : ∀ (i : Nat) (h : i < its.toArray.size), ∃ w tk, ws[i]? = some w ∧ its.toArray[i] = .str (S w) tk := fun i h => by
    obtain ⟨w, tk, h1, h2⟩ := strs_get r i its.toArray[i] (by simp at h; simp [h])
    exact ⟨w, tk, h1, h2⟩
  refine call_meets PySem.F.slot_list_remove ⟨_, e, rfl⟩ PySem.F.entry_list_remove (PySem.F.args_list_remove_2 _ _)
    (MeetsSeq.list_remove l its.toArray n (.str (S k) t) (eqS (S k)) (fun y hy => ?_) j hjl ?_ ?_ (by rw [List.size_toArray]; omega)) ⟨e, ?_⟩
  · obtain ⟨i, hi, rfl⟩ := Array.mem_iff_getElem.mp hy
    obtain ⟨w, tk, _, h2⟩ := item i hi
    rw [h2]
    exact SeqRoads2.EqGives.str (S w) (S k) tk t
  · obtain ⟨w, tk, h1, h2⟩ := item j hjl
    rw [hj] at h1
    cases h1
    rw [h2]
    exact beq_self_eq_true _
  · intro m hm hmj
    obtain ⟨w, tk, h1, h2⟩ := item m hm
    rw [h2]
    refine beq_eq_false_iff_ne.mpr fun e2 => hno m hmj ?_
    rw [h1, show w = k from e2]
  · have rr := r.eraseIdx j
    rw [← map_er, ← map_er] at rr
    refine ⟨.non, _, I.lset (its' := its.eraseIdx j) (t' := s.toks) hH e ?_ rr ?_, rfl, q⟩
    · show its.toArray.eraseIdxIfInBounds j = (its.eraseIdx j).toArray
      rw [List.eraseIdxIfInBounds_toArray]
    · have z2 := List.length_eraseIdx_le ws j
      rw [List.length_map, List.length_map]
      omega
def remS (k : List Nat) (l : List D) : Option (List D) := match allStrs l with
  | some ws => if k ∈ ws then some ((ws.erase k).map D.str) else none
  | none => none
def sRem (i : Nat) (m : Sm D) : Ss := sOwn i (sbnd m fun d => match d with
  | .str k => chL i (remS k)
  | _ => fun _ => none)
theorem first_s : ∀ {ws : List (List Nat)} {k : List Nat}, k ∈ ws → ∃ j, ws[j]? = some k ∧ (∀ m : Nat, m < j → ws[m]? ≠ some k) ∧ ws.eraseIdx j = ws.erase k
  | [], k, h => by simp at h
  | w :: ws, k, h => by
    by_cases e : w = k
    · subst e
      exact ⟨0, rfl, fun m hm => absurd hm (Nat.not_lt_zero _), by simp⟩
    · obtain ⟨j, h1, h2, h3⟩ := first_s ((List.mem_cons.mp h).resolve_left fun z => e z.symm)
      refine ⟨j + 1, h1, fun m hm => ?_, ?_⟩
      · cases m with
        | zero => exact fun z => e (Option.some.inj z)
        | succ m => exact h2 m (Nat.lt_of_succ_lt_succ hm)
      · rw [List.eraseIdx_cons_succ, h3, List.erase_cons_tail (by simpa using e)]
section
variable {X : Cx} {κ : Kx} {W : WX} {e : Expr} {m : Sm D} {pos pos' : Pos}
theorem s_rem {x : Str} {i : Nat} {apos cpos : Pos} (hK : X.K = κ.K) (hx : PE X (.Name x pos') (tVar i)) (he : PE X e (tX κ W (RP κ) m))
    (hs : swapsWith (.Call (.Attribute (.Name x pos') "remove" apos) [e] [] cpos) none pos.line X.env = pure false := by rfl)
    (hbase : attributeBase (.Name x pos') "remove" X.env (eval (.Name x pos') X.env) = eval (.Name x pos') X.env := by rfl)
    (hfew : ((backTo cpos (starEach [e] X.env)).all (fun x => !x.1) && (backToKw cpos (keywordEach [] X.env)).all (fun x => x.1.isSome)
      && decide (([e] : List Expr).length + ([] : List Keyword).length + (if ([] : List Keyword).isEmpty then 0 else 1) < 30)) = true := by rfl)
    (hline : (apos.endLine == cpos.line) = true := by rfl) (hst : starEach [e] X.env = (false, eval e X.env) :: starEach [] X.env := by rfl) (hplain : (backTo cpos (starEach [] X.env)).any (·.1) = false := by rfl) :
    PS X (.Expr (.Call (.Attribute (.Name x pos') "remove" apos) [e] [] cpos) pos) (tS κ W (sRem i m)) :=
  PS.imp (ps_expr (pe_bm PySem.F.plainAttrs_list PySem.F.slot_list_remove PySem.F.type_list_remove mt_removeS hx (pa_cons (im he) pa_nil hst) hbase hfew hline hst hplain) hs) fun D σ H ⟨G, env, r, q⟩ => by
    rw [hK]
    refine own_call r q fun d e1 v a H1 G1 r1 rv ha q1 => ?_
    cases d with
    | str k =>
      obtain ⟨t, l, k2, z, hl, hk, q1⟩ := chL_of q1
      unfold remS at hk
      cases hw : allStrs l with
      | none => rw [hw] at hk; cases hk
      | some ws =>
        rw [hw] at hk
        dsimp only at hk
        split at hk
        · rename_i hm
          cases hk
          obtain ⟨j, j1, j2, j3⟩ := first_s hm
          obtain ⟨b, ys, g1, g2, g3, _⟩ := lst_at r1 z hl
          rw [ha] at g1
          cases g1
          have el := allStrs_of hw
          subst el
          have ey := g3.ofStrs
          subst ey
          obtain ⟨G2, eg, rep, fr⟩ := r1.chg z hl ha (RpA.strs2 (ws.eraseIdx j))
          rw [j3] at rep fr
          refine ⟨a, ws, k, j, rfl, by cases rv; rfl, g2, j1, j2, ?_⟩
          rw [j3]
          exact q1 σ _ G2 rep fr
        · cases hk
    | _ => exact q1.elim
end
end Vs

set_option Elab.async false
set_option linter.all false
set_option maxRecDepth 100000
set_option maxHeartbeats 2000000
/-! Vl: sorted(xs, key=lambda x: ..). -/
namespace Vs
open PySem PySem.Spec PyProof.Rows L2
section
variable {X : Cx} {pins : List (Addr × Obj)} {σ : L2.St} {H : Hp} {s : Shared}
/-- a lambda is made: all stays but its table -/
theorem mk_lam {T : List (Addr × Str)} {q : Str} {c P : Addr} {pa : Arguments} {b : Expr} {sc : Scope} {at_ : Pos} {E Q : Value → Shared → Prop} (I : Inv X pins σ H s) (tb : LamX.TabB X.base X.mg c P) (ec : X.env.code = .ref c) (eq : X.env.qual ++ "<lambda>" = q)
    (mt : (P, q) ∈ T) (u1 : ∀ p ∈ T, p.1 = P → p.2 = q) (ts : LamX.Tabs T H) (nd : defaultsOf pa X.env = ([], [])) (fv : ∀ y ∈ sc.names, y.2 = .free → ∃ d, X.env.cells.lookup y.1 = some d)
    (k : ∀ (f e : Addr) (pm ct : Value) (H1 : Hp) (s1 : Shared), Inv X pins σ H1 s1 → Grw H H1 → LamX.Tabs T H1 → s1.heap.get? f = some (PySem.W.kla_obj "<lambda>" q pa b sc (cloFrom X.env.cells sc.names []) pm e ct) → H1 f = none → f ∉ frs X.stack → H1 e = some (LamX.CodeO e q) → Q (.ref f) s1) :
    wpAny (model X.prog X.w) X.A (eval (.Lambda pa b sc at_) X.env) Q E s := by
  subst eq
  obtain ⟨ps, e0, e1, e2⟩ := ts _ mt
  have oP := I.hok P _ e0
  have far : ∀ g, s.heap.objs.size ≤ g → g ∉ frs X.stack := fun g hg m => by
    rcases List.mem_cons.mp (I.stkSub _ m) with z | z
    · have := I.lt
      rw [← z] at this
      exact absurd (Nat.lt_of_lt_of_le this hg) (Nat.lt_irrefl _)
    · exact I.nofs hg z
  have bP := tb.bm.keeps I.bk
  have cP := tb.code.keeps I.bk
  have gP := I.mod.glob.keeps I.bk
  apply PySem.W.kla_eval nd
  cases hc : codeAmong at_ ps.toList with
  | some w =>
    obtain ⟨e, rfl, ce⟩ := e2 _ _ hc
    apply PySem.W.kla_makeFunctionHit (mg := X.mg) (closure_ok fv) I.ok.glob gP ec cP oP e1 hc bP
    intro ct h1 tk up le
    have J : Inv X pins σ H { s with heap := h1.push (PySem.W.kla_obj "<lambda>" (X.env.qual ++ "<lambda>") pa b sc (cloFrom X.env.cells sc.names []) ((X.mg "__name__").getD .none) e ct), toks := tk } :=
      I.kept fun g o z => Heap.get?_push_of_some _ (up g o z)
    exact k _ e _ ct H _ J (Grw.refl H) ts (Heap.get?_push_size _ rfl) (I.hok.fresh le) (far _ le) ce
  | none =>
    apply PySem.W.kla_makeFunction (mg := X.mg) (closure_ok fv) I.ok.glob gP ec cP oP e1 hc tb.gP bP
    intro e ct h1 tk up le lt cr ot
    obtain ⟨e', oc, us, t, z, g1, g2, g3⟩ := cr
    cases z
    have ne : H e = none := I.hok.fresh le
    have nPe : P ≠ e := ne_of_none e0 ne
    have le1 : s.heap.objs.size ≤ h1.objs.size := Nat.le_of_lt (Nat.lt_of_le_of_lt le lt)
    have nf : h1.objs.size ≠ e := (Nat.ne_of_lt lt).symm
    have nfP : h1.objs.size ≠ P := fun z => by
      have := Heap.lt_size oP
      rw [← z] at this
      exact absurd (Nat.lt_of_lt_of_le this le1) (Nat.lt_irrefl _)
    have J := LamX.inv_table (q := X.env.qual ++ "<lambda>") (t' := tk) (more := #[rawInt at_.line, rawInt at_.col, .ref e]) (h' := h1.push (PySem.W.kla_obj "<lambda>" (X.env.qual ++ "<lambda>") pa b sc (cloFrom X.env.cells sc.names []) ((X.mg "__name__").getD .none) e ct)) I e0
      (fun g o hg z => Heap.get?_push_of_some _ (up g o hg z)) (Heap.get?_push_of_some _ ot) le ⟨oc, us, t, Heap.get?_push_of_some _ g1, g2, g3⟩
    have grw : Grw H (upd (upd H P (.tbl (ps ++ #[rawInt at_.line, rawInt at_.col, .ref e]))) e (LamX.CodeO e (X.env.qual ++ "<lambda>"))) := fun g o z => by
      rw [upd_ne (ne_of_none z ne)]
      by_cases w : g = P
      · rw [w, upd_same]
        refine ⟨_, rfl, fun n => ?_⟩
        rw [w, e0] at z
        exact absurd (Option.some.inj z).symm (n ps)
      · rw [upd_ne w]
        exact ⟨o, z, fun _ => rfl⟩
    have app : (ps ++ #[rawInt at_.line, rawInt at_.col, Value.ref e]).toList = ps.toList ++ [rawInt at_.line, rawInt at_.col, .ref e] := by simp
    have cn : ∀ g, nt (LamX.CodeO g (X.env.qual ++ "<lambda>")) := fun g ps' => LamX.codeO_ne ps'
    have codes : ∀ g r, H g = some (LamX.CodeO g r) → upd (upd H P (.tbl (ps ++ #[rawInt at_.line, rawInt at_.col, .ref e]))) e (LamX.CodeO e (X.env.qual ++ "<lambda>")) g = some (LamX.CodeO g r) := fun g r z => grw.at z fun ps' => LamX.codeO_ne ps'
    refine k h1.objs.size e _ ct _ _ J grw (fun p hp => ?_) (Heap.get?_push_size _ rfl) ?_ (far _ le1) upd_same
    · by_cases w : p.1 = P
      · refine ⟨ps ++ #[rawInt at_.line, rawInt at_.col, .ref e], ?_, ?_, fun r cv hr => ?_⟩
        · rw [w, upd_ne nPe, upd_same]
        · rw [app]
          exact PySem.TriplesOk_snoc _ _ _ _ e1
        · rw [app] at hr
          rw [u1 p hp w]
          rcases LamX.among_app _ e1 hr with z | z
          · obtain ⟨d, d1, d2⟩ := e2 _ _ z
            exact ⟨d, d1, codes d _ d2⟩
          · exact ⟨e, z, upd_same⟩
      · obtain ⟨qs, a1, a2, a3⟩ := ts p hp
        refine ⟨qs, ?_, a2, fun r cv hr => ?_⟩
        · rw [upd_ne (ne_of_none a1 ne), upd_ne w]
          exact a1
        · obtain ⟨d, d1, d2⟩ := a3 _ _ hr
          exact ⟨d, d1, codes d _ d2⟩
    · rw [upd_ne nf, upd_ne nfP]
      exact I.hok.fresh le1
/-- a lambda's names: one parameter, captured ones, its own -/
structure LamP (so sc : Scope) (x : Str) : Prop where
  kind : sc.kind = .function
  co : sc.isCoroutine = false
  gn : sc.isGenerator = false
  par : sc.names.lookup x = some .local
  nc : ∀ y ∈ sc.names, y.2 ≠ .cell
  fr : ∀ y ∈ sc.names, y.2 = .free → so.names.lookup y.1 = some .cell ∨ so.names.lookup y.1 = some .free
def lamPB (so sc : Scope) (x : Str) : Bool := decide (sc.kind = .function) && (!sc.isCoroutine && (!sc.isGenerator && (decide (sc.names.lookup x = some .local) && sc.names.all fun y => decide (y.2 ≠ .cell) && (decide (y.2 ≠ .free) || (decide (so.names.lookup y.1 = some .cell) || decide (so.names.lookup y.1 = some .free))))))
theorem lamP_of {so sc : Scope} {x : Str} (h : lamPB so sc x = true) : LamP so sc x := by
  simp only [lamPB, Bool.and_eq_true, Bool.or_eq_true, Bool.not_eq_true', decide_eq_true_eq, List.all_eq_true] at h
  obtain ⟨h1, h2, h3, h4, h5⟩ := h
  exact ⟨h1, h2, h3, h4, fun y m => (h5 y m).1, fun y m e => (h5 y m).2.resolve_left fun n => n e⟩
def lcx (X : Cx) (A : Around) (outer : List Env) (s : Shared) (H : Hp) (sc : Scope) (f e : Addr) (N : List Str) : Cx := { LamX.lamCx X A outer s H (fun _ _ _ => False) sc f e with N := N }
/-- the lambda's frame at its start -/
theorem lam_start {A : Around} {sc : Scope} {f e : Addr} {x : Str} {N : List Str} {σ' : L2.St} {xv : V} {u : Value} {h1 : Heap} {tk : Nat} (I : Inv X pins σ H s) (L : LamP X.env.scope sc x) (e0 : Env0 X.prog X.w X.K X.mg X.base A X.stack s H) (hd : A.handled = none)
    (rx : RelV xv u) (ns : h1.Ns s.heap.objs.size fun y => ([(x, u)] : List (Str × Value)).reverse.lookup y) (kp : ∀ b o, s.heap.get? b = some o → h1.get? b = some o) (ln : σ'.length = N.length)
    (vals : ∀ (i : Nat) (y : Str) (v : V), N[i]? = some y → σ'[i]? = some (some v) → (y = x ∧ v = xv) ∨ (sc.names.lookup y = some .free ∧ ∃ j : Nat, X.N[j]? = some y ∧ σ[j]? = some (some v))) :
    Inv (lcx X A X.stack s H sc f e N) [] σ' H { s with heap := h1, toks := tk } := by
  have has : ∀ y ∈ sc.names, y.2 = .free → ∃ d, X.env.cells.lookup y.1 = some d := fun y m z => I.ok.has _ ((L.fr y m z).imp id id)
  have back : ∀ {y d}, (cloFrom X.env.cells sc.names []).lookup y = some d → X.env.cells.lookup y = some d := fun {y d} z => by
    rcases cloFrom_mem (PySem.mem_of_lookup z) with m | ⟨g1, g2⟩
    · cases m
    · obtain ⟨d1, hd1⟩ := has _ g1 rfl
      have hd1 : X.env.cells.lookup y = some d1 := hd1
      have : d = d1 := by rw [g2, hd1] <;> rfl
      rw [this]
      exact hd1
  have fwd : ∀ {y}, sc.names.lookup y = some .free → ∃ d, (cloFrom X.env.cells sc.names []).lookup y = some d := fun {y} z => mem_lookup (cloFrom_has (cells := X.env.cells) (acc := []) (show (y, NameKind.free) ∈ sc.names from PySem.mem_of_lookup z))
  have cell : ∀ {d : Addr} {v : Option Value}, s.heap.IsCell d v → h1.IsCell d v := fun {d v} ⟨o, g1, g2⟩ => ⟨o, kp _ _ g1, g2⟩
  have none_ : ∀ b : Addr, b ∉ (lcx X A X.stack s H sc f e N).ex := fun b z => nomatch (show b ∈ ([] : List Addr) from z)
  have ok : (lcx X A X.stack s H sc f e N).Ok := {
    mod := e0.mod
    kind := L.kind
    glob := rfl
    blt := rfl
    above := Nat.le_refl _
    inj := fun y z d g1 g2 => I.ok.inj y z d (back g1) (back g2)
    has := fun y hy => by
      have hy : sc.names.lookup y = some .cell ∨ sc.names.lookup y = some .free := hy
      exact hy.elim (fun z => absurd rfl (L.nc _ (PySem.mem_of_lookup z))) fwd
    cab := fun y d z _ => nomatch (show false = true from z)
    hd := fun _ => hd
    frames := Around.frames_deeper e0.frames
    stk := .inr ⟨rfl, rfl⟩
    exf := fun b z => absurd z (none_ b)
    bs := e0.bs
    bsz := e0.bsz
    noex := fun b _ _ => none_ b
    exfs := fun b z => absurd z (none_ b)
    funs := e0.funs
    frf := e0.frf }
  refine ⟨ok, rfl, e0.bare, Un.kept kp, ⟨_, ns, fun i y v g1 g2 g3 => ?_⟩, fun y d z => ?_, e0.hok.fresh (Nat.le_refl _), fun y d z => I.freeC y d (back z), fun p hp => ?_, e0.hok.kept kp, ln⟩
  · rcases vals i y v g1 g2 with ⟨rfl, rfl⟩ | ⟨k, j, j1, j2⟩
    · exact ⟨u, rx, .inl ⟨L.par, by simp⟩⟩
    · obtain ⟨m, _, hl⟩ := I.loc
      have lk := L.fr _ (PySem.mem_of_lookup k) rfl
      obtain ⟨w, r, q⟩ := hl j y v j1 j2 (.inr lk)
      obtain ⟨d, hd2⟩ := fwd k
      have hd3 := back hd2
      refine ⟨w, r, .inr ⟨.inr k, d, hd2, ?_⟩⟩
      rcases q with ⟨z, _⟩ | ⟨_, d', g5, g6⟩
      · have z : X.env.scope.names.lookup y = some .local := z
        rcases lk with z2 | z2 <;> (rw [show X.env.scope.names.lookup y = _ from z2] at z; cases z)
      · rw [hd3] at g5
        cases g5
        exact cell g6
  · obtain ⟨v, g⟩ := I.cell y d (back z)
    exact ⟨v, cell g⟩
  · exact nomatch (show p ∈ ([] : List (Addr × Obj)) from hp)
/-- the lambda called with one value -/
theorem lam_call {A : Around} {sc : Scope} {f e : Addr} {x q : Str} {N : List Str} {σ' : L2.St} {xv : V} {u pm ct : Value} {pa : Arguments} {b : Expr} {te : TE} {P : VK} {k : Nat} (I : Inv X pins σ H s) (L : LamP X.env.scope sc x) (e0 : Env0 X.prog X.w X.K X.mg X.base A X.stack s H) (hr : Room (k + 1) A)
    (eq : X.env.qual ++ "<lambda>" = q) (rx : RelV xv u) (of : s.heap.get? f = some (PySem.W.kla_obj "<lambda>" q pa b sc (cloFrom X.env.cells sc.names []) pm e ct)) (oe : H e = some (LamX.CodeO e q))
    (bd : bindArgs (PySem.W.kla_fn "<lambda>" q pa b sc (cloFrom X.env.cells sc.names []) pm (.ref e) ct) ⟨[u], []⟩ = pure [(x, u)]) (ln : σ'.length = N.length)
    (vals : ∀ (i : Nat) (y : Str) (v : V), N[i]? = some y → σ'[i]? = some (some v) → (y = x ∧ v = xv) ∨ (sc.names.lookup y = some .free ∧ ∃ j : Nat, X.N[j]? = some y ∧ σ[j]? = some (some v)))
    (body : Room k (A.deeper (LamX.lamEnv X sc s.heap.objs.size f e)) → PE (lcx X A X.stack s H sc f e N) b te) (ht : te σ' H P) : wpAny (model X.prog X.w) A (call (.ref f) [u]) (EP X pins σ P) (fun _ _ => False) s := by
  subst eq
  obtain ⟨⟨oc, us, t, c1, c2, c3⟩, _, _⟩ := I.hok e _ oe
  have run : codeAny (model X.prog X.w) A (.call (.ref f) ⟨[u], []⟩) (CR (L2.CX X.prog X.w) X.stack X.prog X.w H s P fun _ _ _ => False) s := by
    apply PySem.W.kla_callFunE hr.depth of rfl L.co L.gn rfl ⟨e, oc, us, t, rfl, c1, c2, c3⟩
    rw [bd]
    refine wpAny_pure (wpAny_newFunctionEnv L.nc (fun y hy => ?_) (fun h1 ns sb => ⟨I.nolimit.fresh _ sb, ?_⟩) L.kind)
    · rw [List.mem_singleton.mp hy]
      exact L.par
    · have kp : ∀ b o, s.heap.get? b = some o → h1.get? b = some o := fun b o z => sb.extBut b o (Nat.ne_of_lt (Heap.lt_size z)) (Heap.get?_push_of_some _ z)
      have J := lam_start (f := f) (e := e) (tk := s.toks + ([(x, u)] : List (Str × Value)).length) I L e0 hr.hd rx ns kp ln vals
      apply PySem.W.kla_codeExpr
      refine wpAny_mono ((body (hr.deeper _)).run [] _ σ' H P J ht) (fun v s' ⟨w, H', J', rv, hq⟩ => ?_) fun _ _ z => z
      exact ⟨w, H', J'.os, J'.bare, J'.base, J'.hok, rv, hq⟩
  refine wpAny_call (codeAny_mono run fun r s' hq => ?_)
  cases r with
  | error er =>
    obtain ⟨_, _, _, _, _, _, _, _, _, _, _, _, _, _, _, _, z⟩ := hq
  | ok fl =>
    cases fl with
    | ret w => exact I.after hq
    | next => exact hq.elim
    | brk => exact hq.elim
    | cont => exact hq.elim
end
/-! ### sorted(xs, key=lambda x: e) as a function -/
/-- a captured name's slot, as the lambda sees it -/
def frS : Sl → Option Sl
  | .sh d => some (.sh d)
  | .bo l => some (.bo l)
  | .ow l => some (.bo l)
  | .lk l => some (.bo l)
  | _ => none
def frL : List Nat → En → Option En
  | [], _ => some []
  | j :: js, e => match e[j]? with
    | some s => match frS s, frL js e with
      | some t, some r => some (t :: r)
      | _, _ => none
    | none => none
def keyL (fr : En) (k : Nat) (mb : Sm D) : D → Option D := fun d => match mb (fr ++ .sh d :: List.replicate k .un) with
  | some (.ok r _) => some r
  | _ => none
noncomputable def fSortL (js : List Nat) (k : Nat) (mb m : Sm D) : Sm Rs := bnd m fun d e => match d with
  | .lst l => match frL js e with
    | some fr => match opSort (keyL fr k mb) l with
      | some r => some (.ok (.ow r) e)
      | none => none
    | none => none
  | _ => none
section
variable {κ : Kx}
theorem frS_in {H : Hp} {G : Gh} {σ : L2.St} {env : En} {j : Nat} {s t : Sl} (r : Rep κ H G σ env) (e : env[j]? = some s) (h : frS s = some t) : ∃ v, σ[j]? = some (some v) ∧ SlIn κ H G [] (some v) t ∧ ∀ o, t ≠ .io o := by
  have q := r.slot j s e
  have ow : ∀ {l : List D}, (∃ x, σ[j]? = some (some x) ∧ RO κ H G x (.ls l) (G.fp j)) → ∃ v, σ[j]? = some (some v) ∧ SlIn κ H G [] (some v) (.bo l) ∧ ∀ o, Sl.bo l ≠ .io o := fun {l} ⟨x, h1, h2⟩ => by
    obtain ⟨a, xs, rfl, _, h4, _, h6⟩ := h2.ls_inv
    exact ⟨_, h1, ⟨a, xs, rfl, h4, h6, fun m => by cases m⟩, fun o z => nomatch z⟩
  cases s with
  | un => cases h
  | io o => cases h
  | tr o => cases h
  | sh d =>
    cases h
    obtain ⟨_, x, h1, h2⟩ := q
    exact ⟨x, h1, ⟨x, rfl, h2⟩, fun o z => nomatch z⟩
  | bo l =>
    cases h
    obtain ⟨a, xs, h1, h2, h3, _⟩ := q
    exact ⟨_, h1, ⟨a, xs, rfl, h2, h3, fun m => by cases m⟩, fun o z => nomatch z⟩
  | ow l => cases h; exact ow q
  | lk l => cases h; exact ow q
theorem SlIn.mono {H H' G G' : Hp} {v : Option V} {t : Sl} (h : Grw H H') (g : Same G G') (n : ∀ o, t ≠ .io o) (q : SlIn κ H G [] v t) : SlIn κ H' G' [] v t := by
  cases t with
  | un => exact trivial
  | sh d =>
    obtain ⟨x, h1, h2⟩ := q
    exact ⟨x, h1, h2.mono g⟩
  | bo l =>
    obtain ⟨a, xs, h1, h2, h3, h4⟩ := q
    exact ⟨a, xs, h1, h.at h2, h3.mono g, h4⟩
  | io o => exact (n o rfl).elim
  | ow l => exact q.elim
  | lk l => exact q.elim
  | tr o => exact q.elim
/-- the captured values -/
theorem frL_in {H : Hp} {G : Gh} {σ : L2.St} {env : En} (r : Rep κ H G σ env) : ∀ {js : List Nat} {fr : En}, frL js env = some fr → ∃ vs : List V, vs.length = js.length ∧ fr.length = js.length ∧
    (∀ (i : Nat) (j : Nat), js[i]? = some j → ∃ v, vs[i]? = some v ∧ σ[j]? = some (some v)) ∧ ∀ (i : Nat) (t : Sl), fr[i]? = some t → SlIn κ H G [] vs[i]? t ∧ ∀ o, t ≠ .io o
  | [], fr, h => by
    cases h
    exact ⟨[], rfl, rfl, fun i j z => by simp at z, fun i t z => by simp at z⟩
  | j :: js, fr, h => by
    unfold frL at h
    cases z : env[j]? with
    | none => rw [z] at h; cases h
    | some s =>
      rw [z] at h
      dsimp only at h
      split at h
      · rename_i t r1 h1 h2
        cases h
        obtain ⟨v, k1, k2, k3⟩ := frS_in r z h1
        obtain ⟨vs, g1, g2, g3, g4⟩ := frL_in r h2
        refine ⟨v :: vs, by simp [g1], by simp [g2], fun i j' w => ?_, fun i t' w => ?_⟩
        · cases i with
          | zero =>
            simp only [List.getElem?_cons_zero, Option.some.injEq] at w
            subst w
            exact ⟨v, rfl, k1⟩
          | succ i => simpa only [List.getElem?_cons_succ] using g3 i j' (by simpa using w)
        · cases i with
          | zero =>
            simp only [List.getElem?_cons_zero, Option.some.injEq] at w
            subst w
            exact ⟨k2, k3⟩
          | succ i => simpa only [List.getElem?_cons_succ] using g4 i t' (by simpa using w)
      · cases h
end
section
variable {X : Cx} {κ : Kx} {H G : Hp} {σ : L2.St}
theorem keyL_fn {sc : Scope} {f e : Addr} {x q : Str} {fns cvs : List Str} {js : List Nat} {fr : En} {vs : List V} {pm ct : Value} {pa : Arguments} {b : Expr} {mb : Sm D} {k n : Nat} (L : LamP X.env.scope sc x) (hr : Room (n + 3) X.A) (eq : X.env.qual ++ "<lambda>" = q) (oe : H e = some (LamX.CodeO e q))
    (bd : ∀ u, bindArgs (PySem.W.kla_fn "<lambda>" q pa b sc (cloFrom X.env.cells sc.names []) pm (.ref e) ct) ⟨[u], []⟩ = pure [(x, u)]) (kc : cvs.length = k) (lj : js.length = fns.length)
    (hf : ∀ (i : Nat) (y : Str), fns[i]? = some y → sc.names.lookup y = some .free ∧ ∃ j : Nat, js[i]? = some j ∧ X.N[j]? = some y)
    (lv : vs.length = js.length) (lf : fr.length = js.length) (hv : ∀ (i : Nat) (j : Nat), js[i]? = some j → ∃ v, vs[i]? = some v ∧ σ[j]? = some (some v)) (hs : ∀ (i : Nat) (t : Sl), fr[i]? = some t → SlIn κ H G [] vs[i]? t ∧ ∀ o, t ≠ .io o)
    (body : ∀ (A : Around) (outer : List Env) (s : Shared) (H : Hp) (f e : Addr), Room n (A.deeper (LamX.lamEnv X sc s.heap.objs.size f e)) → PE (lcx X A outer s H sc f e (fns ++ x :: cvs)) b (tX κ (fun _ _ _ _ => False) (RP κ) mb)) :
    KeyFn X κ σ (.ref f) [(f, PySem.W.kla_obj "<lambda>" q pa b sc (cloFrom X.env.cells sc.names []) pm e ct)] (keyL fr k mb) H G := by
  intro H1 G1 pins1 s1 xv u d r P gh gg sb hp I1 rx rd hk hP
  have of := (I1.pin _ (List.mem_append_right _ (hp _ (List.mem_singleton_self _)))).1
  have lk : fr.length = fns.length := by omega
  have lk2 : vs.length = fns.length := by omega
  have look : ∀ (i : Nat) (z : Sl), (fr ++ [Sl.sh d])[i]? = some z → SlIn κ H1 G1 [] (vs ++ [xv])[i]? z ∧ ∀ o, z ≠ .io o := fun i z e => by
    by_cases hi : i < fr.length
    · rw [List.getElem?_append_left hi] at e
      rw [List.getElem?_append_left (by omega)]
      obtain ⟨q1, q2⟩ := hs i z e
      exact ⟨q1.mono gh gg q2, q2⟩
    · rw [List.getElem?_append_right (by omega)] at e
      rw [List.getElem?_append_right (by omega)]
      have h0 : i - fr.length = 0 := by
        cases w : i - fr.length with
        | zero => rfl
        | succ m => rw [w] at e; simp at e
      have h1 : i - vs.length = 0 := by omega
      rw [h0] at e
      rw [h1]
      simp only [List.getElem?_cons_zero, Option.some.injEq] at e
      subst e
      exact ⟨⟨xv, rfl, rd⟩, fun o z => nomatch z⟩
  have rp := rep_in (N := fns ++ x :: cvs) (k := k) (F := []) (vs := vs ++ [xv]) (env0 := fr ++ [Sl.sh d]) sb (by simp [lk, lk2]) (by simp only [List.length_append, List.length_cons, List.length_nil]; omega) (fun i z e => (look i z e).1) fun i j o o' e _ => ((look i _ e).2 o rfl).elim
  have ef : fr ++ [Sl.sh d] ++ List.replicate k Sl.un = fr ++ .sh d :: List.replicate k .un := by rw [List.append_assoc]; rfl
  refine lam_call (k := n) (N := fns ++ x :: cvs) (σ' := start (fns ++ x :: cvs) (vs ++ [xv])) (xv := xv) (te := tX κ (fun _ _ _ _ => False) (RP κ) mb) I1 L I1.env0.in1.in1 hr.in1.in1 eq rx of (gh.at oe fun ps => LamX.codeO_ne ps) (bd u) ?_ (fun i y v e1 e2 => ?_) (fun h => body _ _ _ _ _ _ h) ?_
  · unfold L2.start
    simp only [List.length_append, List.length_map, List.length_replicate, List.length_cons, List.length_nil]
    omega
  · have hi : i < (vs ++ [xv]).length := by
      unfold L2.start at e2
      by_cases hi : i < (vs ++ [xv]).length
      · exact hi
      · rw [List.getElem?_append_right (by simpa using hi), List.getElem?_replicate] at e2
        split at e2 <;> cases e2
    have e3 : (vs ++ [xv])[i]? = some v := by
      unfold L2.start at e2
      rw [List.getElem?_append_left (by simpa using hi), List.getElem?_map] at e2
      cases w : (vs ++ [xv])[i]? with
      | none => rw [w] at e2; cases e2
      | some a => rw [w] at e2; cases e2; rfl
    by_cases hlt : i < fns.length
    · rw [List.getElem?_append_left hlt] at e1
      rw [List.getElem?_append_left (by omega)] at e3
      obtain ⟨k1, j, k2, k3⟩ := hf i y e1
      obtain ⟨v', k4, k5⟩ := hv i j k2
      rw [e3] at k4
      cases k4
      exact .inr ⟨k1, j, k3, k5⟩
    · have h0 : i = fns.length := by
        simp only [List.length_append, List.length_cons, List.length_nil] at hi
        omega
      subst h0
      rw [List.getElem?_append_right (Nat.le_refl _), Nat.sub_self] at e1
      rw [List.getElem?_append_right (by omega), lk2, Nat.sub_self] at e3
      simp only [List.getElem?_cons_zero, Option.some.injEq] at e1 e3
      exact .inl ⟨e1.symm, e3.symm⟩
  · refine ⟨_, _, rp, ?_⟩
    rw [ef]
    unfold keyL at hk
    split at hk
    · rename_i r' e' hm
      cases hk
      rw [hm]
      intro v H2 G2 r2 rv g2 f2
      exact hP v H2 G2.g g2 f2.gk r2.sub (fun a o h g => f2.gn a o h g fun ⟨i, s, z1, z2, z3⟩ => by
        have z4 : a ∈ fpS [] (fr ++ [Sl.sh d] ++ List.replicate k Sl.un) (vs ++ [xv]) i := by
          rw [ef]
          exact z3
        rw [← ef] at z1
        obtain ⟨m, _⟩ := mt_start (κ := κ) (H := H1) (G := G1) (F := []) (env0 := fr ++ [Sl.sh d]) (k := k) (vs := vs ++ [xv]) ⟨i, s, z1, z2, z4⟩ fun i z e => (look i z e).1
        cases m) rv
    · cases hk
theorem KeyFn.more {f : Value} {P0 P1 : List (Addr × Obj)} {key : D → Option D} (h : KeyFn X κ σ f P0 key H G) (k : ∀ p ∈ P0, p ∈ P1) : KeyFn X κ σ f P1 key H G := fun H1 G1 pins1 s1 x u d r P gh gg sb hp => h H1 G1 pins1 s1 x u d r P gh gg sb fun p m => hp p (k p m)
theorem v_sortL {W : WX} {e : Expr} {me mb : Sm D} {sc : Scope} {x q : Str} {c P : Addr} {fns cvs : List Str} {js : List Nat} {pa : Arguments} {b : Expr} {k n : Nat} {p pos lpos kpos : Pos} (L : LamP X.env.scope sc x) (hr : Room (n + 3) X.A) (hK : X.K = κ.K) (tb : LamX.TabB X.base X.mg c P) (ec : X.env.code = .ref c) (eq : X.env.qual ++ "<lambda>" = q)
    (mt : (P, q) ∈ κ.tb) (u1 : ∀ p ∈ κ.tb, p.1 = P → p.2 = q) (kc : cvs.length = k) (lj : js.length = fns.length) (hf : ∀ (i : Nat) (y : Str), fns[i]? = some y → sc.names.lookup y = some .free ∧ ∃ j : Nat, js[i]? = some j ∧ X.N[j]? = some y)
    (hg : Gl X "sorted") (hm : X.mg "sorted" = none) (he : PE X e (tX κ W (RB κ) me)) (body : ∀ (A : Around) (outer : List Env) (s : Shared) (H : Hp) (f e : Addr), Room n (A.deeper (LamX.lamEnv X sc s.heap.objs.size f e)) → PE (lcx X A outer s H sc f e (fns ++ x :: cvs)) b (tX κ (fun _ _ _ _ => False) (RP κ) mb))
    (nd : defaultsOf pa X.env = ([], []) := by rfl) (bd : ∀ (q : Str) (cl : List (Str × Addr)) (pm cv ct u : Value), bindArgs (PySem.W.kla_fn "<lambda>" q pa b sc cl pm cv ct) ⟨[u], []⟩ = pure [(x, u)] := by intros; rfl)
    (h1 : backTo pos (starEach [e] X.env) = (false, eval e X.env) :: backTo pos (starEach [] X.env) := by rfl) (hpl : (backTo pos (starEach [e] X.env)).any (·.1) = false := by rfl)
    (hall : (backToKw pos (keywordEach [⟨some "key", .Lambda pa b sc lpos, kpos⟩] X.env)).all (·.1.isSome) = true := by rfl) (hnone : (backToKw pos (keywordEach [⟨some "key", .Lambda pa b sc lpos, kpos⟩] X.env)).any (·.1.isNone) = false := by rfl)
    (hks : (backToKw pos (keywordEach [⟨some "key", .Lambda pa b sc lpos, kpos⟩] X.env)).filterMap (·.1) = [Str.ofString "key"] := by rfl) (hkl : (backToKw pos (keywordEach [⟨some "key", .Lambda pa b sc lpos, kpos⟩] X.env)).map (·.2) = [(do let v ← eval (.Lambda pa b sc lpos) X.env; standAt pos; pure v)] := by rfl)
    (hst : starEach [e] X.env = (false, eval e X.env) :: starEach [] X.env := by rfl) (hv : bootBuiltins "sorted" = some (.builtin "sorted") := by decide +kernel) :
    PE X (.Call (.Name "sorted" p) [e] [⟨some "key", .Lambda pa b sc lpos, kpos⟩] pos) (tX κ W (RV κ) (fSortL js k mb me)) := by
  refine ⟨fun pins s σ H Q I ⟨G, env, rp, qq⟩ => ?_⟩
  have ha : tX κ W (RB κ) me σ H fun x H1 => ∃ (l r : List D) (e1 : En) (G1 : Gh) (fr : En), Rep κ H1 G1 σ e1 ∧ RBq κ H1 G1 x (.lst l) ∧ frL js e1 = some fr ∧ opSort (keyL fr k mb) l = some r ∧ EPost κ W (RV κ) σ H1 G1 e1 (some (.ok (.ow r) e1)) Q := by
    refine bind_post rp qq fun d e1 x H1 G1 _ rp1 rx s1 f1 q1 => ?_
    cases d with
    | lst l =>
      dsimp only at q1
      cases z : frL js e1 with
      | none => rw [z] at q1; exact q1.elim
      | some fr =>
        rw [z] at q1
        dsimp only at q1
        cases z2 : opSort (keyL fr k mb) l with
        | none => rw [z2] at q1; exact q1.elim
        | some r =>
          rw [z2] at q1
          exact ⟨l, r, e1, G1, fr, rp1, rx, z, z2, q1⟩
    | _ => exact q1.elim
  refine wpAny_Call_Name_kw (ld_blt I hg hm hv ?_ (by decide) (by decide))
  refine PyProof.Rows.callWith_kw (thn ((pa_cons he pa_nil hst).run pos pins s σ H (fun vs H1 => ∃ x, vs = [x] ∧ ∃ (l r : List D) (e1 : En) (G1 : Gh) (fr : En), Rep κ H1 G1 σ e1 ∧ RBq κ H1 G1 x (.lst l) ∧ frL js e1 = some fr ∧ opSort (keyL fr k mb) l = some r ∧ EPost κ W (RV κ) σ H1 G1 e1 (some (.ok (.ow r) e1)) Q) I (ha.mono fun v H' z => ⟨v, rfl, z⟩))
    fun us s1 ⟨vs, H1, I1, r1, y, ey, l, r, e1, G1, fr, rp1, rx, z, z2, q1⟩ => ?_) h1 hpl hall hnone
  subst ey
  rw [hkl, hks]
  obtain ⟨a, xs, rfl, h2, h3⟩ := rx.lst rp1.sub
  obtain rfl := Vals.ref1 r1
  refine wpAny_evalAll_cons (wpAny_bind (mk_lam (T := κ.tb) I1 tb ec eq mt u1 rp1.sub.t nd (fun y m z => I1.ok.has _ ((L.fr y m z).imp id id)) fun f e pm ct H2 s2 I2 g2 t2 of n1 n2 oe => wpAny_bind (wpAny_standAt (wpAny_pure (wpAny_evalAll_nil ?_)))))
  have sub2 : Sub κ G1.g H2 := ⟨fun a o w => g2.at (rp1.sub a o w) (rp1.sub.n a o w), rp1.sub.n, t2⟩
  have rp2 : Rep κ H2 G1 σ e1 := rp1.grow g2 (Same.refl _) sub2 (fun _ => rfl) fun i b o => (rp1.own o).2
  have nl : f ≠ X.env.locals := fun w => by
    obtain ⟨m, ⟨o, es, ep, g5, g6, _⟩, _⟩ := I2.loc
    rw [← w, of] at g5
    cases g5
    cases g6
  have nx : f ∉ X.fs := fun w => n2 (by
    rcases I2.ok.stk with h | ⟨h, _⟩
    · rw [h]; exact w
    · rw [h]
      have w : f ∈ frs X.outer := w
      unfold frs at w ⊢
      rw [List.filterMap_cons]
      split
      · exact w
      · exact List.mem_cons_of_mem _ w)
  have I3 : Inv X (pins ++ [(f, PySem.W.kla_obj "<lambda>" q pa b sc (cloFrom X.env.cells sc.names []) pm e ct)]) σ H2 s2 := I2.pins_of fun p hp => by
    rcases List.mem_append.mp hp with hp | hp
    · exact I2.pin p (List.mem_append_right _ hp)
    · rw [List.mem_singleton.mp hp]
      exact ⟨of, n1, nl, nx, fun v w => nomatch w⟩
  obtain ⟨vv, v1, v2, v3, v4⟩ := frL_in rp2 z
  unfold opSort at z2
  cases zk : keysOf (keyL fr k mb) l with
  | none => rw [zk] at z2; cases z2
  | some ks =>
    rw [zk] at z2
    dsimp only at z2
    split at z2
    · rename_i hok
      cases z2
      have kf := keyL_fn (f := f) (pm := pm) (ct := ct) (n := n) (mb := mb) (fns := fns) (cvs := cvs) (js := js) (fr := fr) (vs := vv) L hr eq oe (fun u => bd _ _ _ _ _ u) kc lj hf v1 v2 v3 v4 body
      refine wpAny_mono (sort_keyed I3 hK (SqL.of (g2.at h2)) sub2 h3 (kf.more fun p hp => List.mem_append_right _ hp) zk hok (by have := hr.un; omega) (ksk_s1 _ _) (fun _ => ksk_l1 _ _) (fun x => ksk_t1 f x) (Q := Q) fun p ys H' G' sh sg sb gn hp h1p rys => ?_) (fun v s' ⟨w, H', J, rv, hq⟩ => ⟨w, H', J.pins_of fun p hp => J.pin p (List.mem_append_right _ (List.mem_append_left _ hp)), rv, hq⟩) fun _ _ z => z
      obtain ⟨r5, f5⟩ := grow_fr rp2 sh sg sb gn
      obtain ⟨st, rv⟩ := new_ow r5 h1p rys
      have f0 : Fr H1 G1 σ e1 H2 G1 σ e1 := Fr.same g2 (Same.refl _) (fun _ _ _ h _ => h) (fun _ _ _ h => h) fun _ _ _ h => ⟨h, rfl⟩
      exact q1 _ _ _ st.rep (RlMono.mono (fun _ n => n.shift (f0.trans f5)) rv) ((g2.trans sh).trans st.same) ((f0.trans f5).trans st.fr)
    · cases z2
end
/-- a lambda's captured names -/
theorem lamF_of {sc : Scope} {N fns : List Str} {js : List Nat} (h : (fns.length == js.length && (fns.zip js).all fun p => decide (sc.names.lookup p.1 = some .free) && decide (N[p.2]? = some p.1)) = true) : ∀ (i : Nat) (y : Str), fns[i]? = some y → sc.names.lookup y = some .free ∧ ∃ j : Nat, js[i]? = some j ∧ N[j]? = some y := fun i y e => by
  rw [Bool.and_eq_true, beq_iff_eq, List.all_eq_true] at h
  have hi : i < js.length := by
    rw [← h.1]
    exact (List.getElem?_eq_some_iff.mp e).1
  have m := h.2 (y, js[i]) (List.mem_of_getElem? (i := i) (by rw [List.getElem?_zip_eq_some]; exact ⟨e, List.getElem?_eq_getElem hi⟩))
  rw [Bool.and_eq_true, decide_eq_true_eq, decide_eq_true_eq] at m
  exact ⟨m.1, js[i], List.getElem?_eq_getElem hi, m.2⟩
/-! ### a def whose code object is told; the law's end with tables -/
end Vs
namespace L2
open PySem PySem.Spec PyProof.Rows
theorem Fun.okT {P : Program} {w : World} {K : PySem.W.Frag} {mg : Str → Option Value} {base : Heap} {x qual : Str} {st : Stmt} {f c : Addr} {fd : FuncData} {N ps : List Str} {k : Nat} {sp : Sp} (F : Fun K x qual st f fd) (S : FnScope N ps (defScope st)) (len : ∀ vs H Q E, sp vs H Q E → vs.length = ps.length) (hc : fd.code = .ref c)
    (hbody : ∀ (A : Around) (outer : List Env) (s : Shared) (H : Hp) (vs : List V) (Q : VK) (E : XK), Room k (A.deeper (envOfC qual (defScope st) s.heap.objs.size f (.ref c))) → sp vs H Q E →
      ∃ t, PSs (cxOf (L2.CX P w) P w K mg base N qual (defScope st) f (.ref c) A outer s H E) (defBody st) t ∧ t { nx := fun _ H' => Q .non H', rt := Q } (start N vs) H) : FnOk P w K mg base (L2.CX P w) (k + 1) f fd ps sp := by
  obtain ⟨oc, od, kV, doc, pm, an, cdv, ct, osl, rfl, lk, hcd⟩ := F.ex
  have e : cdv = .ref c := hc
  subst e
  exact fn_of lk hcd S len hbody
end L2
namespace Vs
open PySem PySem.Spec PyProof.Rows L2
/-- the tables of the defs named ns are empty at h -/
def DefTabs (K : PySem.W.Frag) (mg : Str → Option Value) (h : Heap) (ns : List Str) : Prop := ∀ n ∈ ns, ∀ (fa c P : Addr) (o : Obj) (fd : FuncData) (e : Value) (dd : Option Addr) (vs : Array Value) (sl : Array (Option Value)), mg n = some (.ref fa) → K.lookup fa = some o → o.data = .func fd → fd.code = .ref c →
  K.lookup c = some ⟨e, dd, .fields vs, sl⟩ → vs[11]? = some (.ref P) → h.get? P = some { cls := .none, data := .fields #[] } ∧ PySem.W.CodeHd h c P
def spLawT (K : PySem.W.Frag) (T : List (Addr × Str)) : Sp := fun vs H Q E => LamX.Tabs T H ∧ spLaw K vs H Q E
theorem law_spTab {κ : Kx} {g : FSem} {m : Bool} (hg : LawTrue g) (vs : List V) (H : Hp) (Q : VK) (E : XK) (h : spLawT κ.K κ.tb vs H Q E) : spV κ [m] g vs H Q E := law_spT hg vs H Q E h.1 h.2
/-- what is told of the law at the head's heap -/
def LawT (l : PySem.W.OpenLaw) (w : World) (K : PySem.W.Frag) (k : Nat) (x : Str) (mg : Str → Option Value) (fa : Addr) (h : Heap) : Prop := ∃ (fd : FuncData) (cs : List (Addr × Addr)) (T : List (Addr × Str)), (∀ p ∈ T, ∃ r ∈ cs, r.2 = p.1) ∧ (∀ p ∈ cs, h.get? p.2 = some { cls := .none, data := .fields #[] }) ∧ (∀ p ∈ cs, K.lookup p.2 = none) ∧
  (∀ p ∈ cs, PySem.W.CodeHd h p.1 p.2) ∧ (∀ (s : Shared) (u : Value), BindsTo s fd ⟨[u], []⟩ [(x, u)]) ∧ ∀ base : Heap, K.In base → base.Ns mainGlobals mg → (∀ p ∈ cs, LamX.TabB base mg p.1 p.2) → FnOk l.prog w K mg base (L2.CX l.prog w) k fa fd [x] (spLawT K T)
theorem walk_lawT {l : PySem.W.OpenLaw} {x : Str} {k : Nat} {q : Program} {loose : List Str} {XP : (Str → Option Value) → Heap → Prop} {YP : World → Heap → Prop} {d : DefRec} {K : Params → PySem.W.Frag} (ns : List Str) (hn : l.most = some 63) (hdf : d.params.defaults = []) (hr : Room k PySem.callerA)
    (hrec : (ns.all fun n => (recsOf q).any fun e => e.name == n) = true) (hY : ∀ (w : World) (h : Heap), YP w h → (K w.params).In h)
    (F : ∀ (w : World) (mg : Str → Option Value) (fa : Addr) (h : Heap), (K w.params).In h → h.Ns mainGlobals mg → mg d.name = some (.ref fa) → DefTabs (K w.params) mg h ns → LawT l w (K w.params) k x mg fa h) :
    PySem.W.WalkO q loose XP YP l.row.toRowW d [] (fun f vs => PySem.call f vs) := by
  refine Att.attach_callB hn hdf fun w s₀ s₁ mg mb fa o pm cd doc a vs zs G Y ho hd hcd hmg hobj hints hlen hbits hg => ?_
  have KX := hY w _ Y
  have dt : DefTabs (K w.params) mg s₁.heap ns := fun n hn' fb c P o1 fd1 e dd vs1 sl k1 k2 k3 k4 k5 k6 => by
    obtain ⟨dL, hm, he⟩ := List.any_eq_true.mp (List.all_eq_true.mp hrec n hn')
    have he := beq_iff_eq.mp he
    obtain ⟨a', o', fd', c', P', t1, t2, t3, t4, t5, t6⟩ := G.T.tab dL hm
    rw [he, k1] at t1
    cases t1
    rw [KX _ _ k2] at t2
    cases t2
    rw [k3] at t3
    cases t3
    rw [k4] at t4
    cases t4
    have hd' := PySem.W.CodeHd.of t5 t6
    obtain ⟨⟨oc, vc, e1, _, e3, e4⟩, hP⟩ := t6
    rw [KX _ _ k5] at e1
    cases e1
    cases e3
    rw [k6] at e4
    cases e4
    exact ⟨hP, hd'⟩
  obtain ⟨fd, cs, T, g1, g2, g3, g4, g5, g6⟩ := F w mg fa _ KX G.T.g hmg dt
  exact LamX.law_callTs (sp := spLawT (K w.params) T) KX G.T.g G.T.b G.T.builtins G.T.nolimit hg g2 g3 g4 G.T.bmain hobj hints (Nat.le_trans hlen (by decide)) hr g6 g5 (fun H hH hS => ⟨fun p hp => by
    obtain ⟨r, r1, r2⟩ := g1 p hp
    exact LamX.TabS.nil (r2 ▸ hH r r1), a, zs, rfl, hS, hlen, hbits, fun _ => rfl⟩) fun H e s' z => cx_out z
end Vs

set_option Elab.async false
set_option linter.all false
set_option maxRecDepth 100000
set_option maxHeartbeats 2000000
/-! Vn: a < b < c as a value; min of two tuples. -/
namespace Vs
open PySem PySem.Spec PyProof.Rows L2
section
variable {X : Cx} {κ : Kx} {W : WX} {a b c : Expr} {ma mb mc : Sm D} {pos : Pos}
def fChV (f g : D → D → Option Bool) (ma mb mc : Sm D) : Sm D := bnd ma fun x => bnd mb fun y => fun e => match f x y with
  | none => none
  | some false => some (.ok (.bl false) e)
  | some true => bnd mc (fun z => fun e => match g y z with
    | some b => some (.ok (.bl b) e)
    | none => none) e
theorem v_chain {op op' : CmpOp} {r r' : R2} {f g : D → D → Option Bool} (ho : OpR X (compareOp op) r) (hs : OpB κ r f) (ho' : OpR X (compareOp op') r') (hs' : OpB κ r' g) (ha : PE X a (tX κ W (RB κ) ma)) (hb : PE X b (tX κ W (RB κ) mb)) (hc : PE X c (tX κ W (RB κ) mc))
    (hm : lastMarks [op, op'] [b, c] = false := by with_unfolding_all rfl) : PE X (.Compare a [op, op'] [b, c] pos) (tX κ W (RP κ) (fChV f g ma mb mc)) := PE.imp (pe_chain ho ho' ha hb hc hm) fun σ H Q ⟨G, env, rp, q⟩ => by
  refine bind_post rp q fun dx e1 x H1 G1 _ rp1 rx s1 f1 q1 => ?_
  refine bind_post rp1 q1 fun dy e2 y H2 G2 _ rp2 ry s2 f2 q2 => ?_
  cases z : f dx dy with
  | none => rw [z] at q2; exact q2.elim
  | some w =>
    rw [z] at q2
    refine hs x y dx dy w H2 G2 _ z rp2.sub (RBq.mono s2 f2.gk rx) ry ⟨w, rfl, ?_⟩
    cases w with
    | false => exact q2 _ H2 G2 rp2 (.bl false) (Grw.refl _) Fr.refl
    | true =>
      refine bind_post rp2 q2 fun dz e3 u H3 G3 _ rp3 ru s3 f3 q3 => ?_
      cases z3 : g dy dz with
      | none => rw [z3] at q3; exact q3.elim
      | some k =>
        rw [z3] at q3
        exact hs' y u dy dz k H3 G3 _ z3 rp3.sub (RBq.mono s3 f3.gk ry) ru (q3 _ H3 G3 rp3 (.bl k) (Grw.refl _) Fr.refl)
end
/-! ### min of two that are data -/
section
variable {prog : Program} {w : World} {A : Around} {E : Value → Shared → Prop} {s : Shared}
theorem min_two_walkH {a b : Value} {Q : Value → Shared → Prop}
    (h : wpAny (model prog w) A.in1 (pyIter (.ref s.heap.objs.size)) (fun it s₂ => ∃ I fp wr G n P St H bt, it = .ref I ∧ WalksS prog w A.in1 I fp wr G n P St ∧ St 0 s₂ ∧ (∀ b ∈ fp, b < s₂.heap.objs.size) ∧ 0 < n ∧
      (∀ b o, H.get? b = some o → b ∉ wr) ∧ (∀ b o, H.get? b = some o → s₂.heap.get? b = some o) ∧ CmpIn prog w A.in1 .Lt H P bt ∧ ∀ v s', P (argBest bt (n - 1)) v → Moved wr G s₂ s' → Q v s') E
      { s with heap := s.heap.push { cls := .type "tuple", data := .seq #[a, b] } }) :
    wpAny (model prog w) A (call (.builtin "min") [a, b]) Q E s := by
  have hname : (toString "min" ++ toString ".loop" : String) = "min.loop" := by decide
  refine call_function_tree F.kind_min F.plain_min F.entry_min (F.args_min2 _ _) ?_
  show wpAny _ A.in1 (Builtin.Builtins.bindParams "min" ["key", "default"] 0 ⟨[], []⟩ >>= _) _ _ s
  refine wpAny_bind (wpAny_of_eq (show Builtin.Builtins.bindParams "min" ["key", "default"] 0 ⟨[], []⟩ = pure [none, none] from rfl) ?_)
  show wpAny _ A.in1 (newTuple [a, b] >>= _) _ _ s
  refine wpAny_bind (wpAny_newObj_type ?_)
  refine wpAny_bind (wpAny_mono h (fun it s₂ h₂ => ?_) fun _ _ e => e)
  obtain ⟨I, fp, wr, G, n, P, St, H, bt, rfl, W, hst, hfp, hn, hw, hkeep, hcmp, hQ⟩ := h₂
  refine wpAny_bind (wpAny_newObj_type ?_)
  have hSf : s₂.heap.objs.size ∉ fp := fun hm => Nat.lt_irrefl _ (hfp _ hm)
  rw [hname]
  refine wpAny_pure ⟨plainId_quiet F.plain_min_loop _, codeAny_min_loop_firstH W H hw bt hcmp s₂.heap.objs.size hSf (fresh_in hkeep) _ hn (fun b o e => Heap.get?_push_of_some _ (hkeep b o e)) (W.frame 0 s₂ _ s₂.toks hst (Nat.le_refl _) fun b _ o e => Heap.get?_push_of_some _ e) (Heap.get?_push_size _ rfl) fun v s' hP hm => ?_⟩
  exact hQ v s' hP (Moved.drop_new (tk := s₂.toks) hm (Nat.le_refl _))
theorem min_two_data {a b : Value} {x y : PyData} {as bs : List Addr} {Q : Value → Shared → Prop} (hh : A.handled = none) (ra : Reads s.heap a x as) (rb : Reads s.heap b y bs) (ha : PySem.W.AlikeAll [x, y]) (hu : A.units + 1 + PyData.depthAll [x, y] < cLine)
    (h : ∀ h' tk, (∀ c o, s.heap.get? c = some o → h'.get? c = some o) → Q (if PySem.W.dataLt y x = true then b else a) { s with heap := h', toks := tk }) :
    wpAny (model prog w) A (call (.builtin "min") [a, b]) Q E s := by
  have hT : (s.heap.push { cls := .type "tuple", data := .seq #[a, b] }).IsTuple s.heap.objs.size #[a, b] := ⟨_, Heap.get?_push_size _ rfl, rfl, 0, rfl⟩
  have kp : ∀ c o, s.heap.get? c = some o → (s.heap.push { cls := .type "tuple", data := .seq #[a, b] }).get? c = some o := fun c o e => Heap.get?_push_of_some _ e
  refine min_two_walkH ?_
  obtain ⟨s1, hs1⟩ : ∃ s1 : Shared, s1 = { s with heap := s.heap.push { cls := .type "tuple", data := .seq #[a, b] } } := ⟨_, rfl⟩
  have hT1 : s1.heap.IsTuple s.heap.objs.size #[a, b] := by rw [hs1]; exact hT
  have kp1 : ∀ c o, s.heap.get? c = some o → s1.heap.get? c = some o := by rw [hs1]; exact kp
  rw [← hs1]
  have hr : ReadsAll s1.heap (#[a, b] : Array Value).toList [x, y] (as ++ (bs ++ [])) := .cons (PySem.W.reads_keeps kp1 ra) (.cons (PySem.W.reads_keeps kp1 rb) .nil)
  refine PySem.W.iter_tupleW (A := A.in1) hh hT1 fun s₂ e W st hfp hw hk => ?_
  refine ⟨_, _, _, _, _, _, _, s1.heap, _, rfl, W, st, hfp, by simp, hw, hk, PySem.W.cmpIn_lt (A := A.in1) hr ha (by show A.units + 1 + _ < _; exact hu), fun v s' hP m => ?_⟩
  obtain ⟨h', tk, rfl, hk'⟩ := PySem.W.moved_old e rfl m
  have k1 := h h' tk fun c o e => hk' c o (kp1 c o e)
  have hv : (if PySem.W.dataLt y x = true then b else a) = v := by
    cases q : PySem.W.dataLt y x <;> simp [argBest, q] at hP <;> simp <;> exact hP
  rw [hv] at k1
  rw [hs1]
  exact k1
end
theorem units66 {k : Nat} {A : Around} (r : Room k A) : A.units + 66 < cLine := by have := r.un; omega
def rMinD (K : PySem.W.Frag) : List V → Hp → VK → Prop := fun vs H Q => ∃ (x y : V) (dx dy : PyData), vs = [x, y] ∧ Dp K H x dx ∧ Dp K H y dy ∧ PySem.W.AlikeAll [dx, dy] ∧ PyData.depthAll [dx, dy] ≤ 64 ∧ Q (if PySem.W.dataLt dy dx = true then y else x) H
theorem call_minD {X : Cx} (hc : X.calm = true) (hu : X.A.units + 66 < cLine) : CallR X (.builtin "min") (rMinD X.K) := by
  intro pins s σ H xs us Q I r h
  obtain ⟨x, y, dx, dy, rfl, hx, hy, ha, hz, q⟩ := h
  obtain ⟨u, w', rfl, rx, ry⟩ := vals2 r
  obtain ⟨as, r1⟩ := Dp.reads I dx x u hx rx
  obtain ⟨bs, r2⟩ := Dp.reads I dy y w' hy ry
  refine min_two_data (I.ok.hd hc) r1 r2 ha (by omega) fun h' tk k => ⟨_, H, I.kept k, ?_, q⟩
  by_cases hj : PySem.W.dataLt dy dx = true
  · rw [if_pos hj, if_pos hj]; exact ry
  · rw [if_neg hj, if_neg hj]; exact rx
open Classical in
noncomputable def opMinT : List D → Option Rs
  | [.tup a, .tup b] => if (D.tup a).pl = true ∧ (D.tup b).pl = true ∧ PySem.W.AlikeAll [(D.tup a).toP, (D.tup b).toP] ∧ PyData.depthAll [(D.tup a).toP, (D.tup b).toP] ≤ 64 then some (.sh (if PySem.W.dataLt (D.tup b).toP (D.tup a).toP = true then .tup b else .tup a)) else none
  | _ => none
theorem RBq.tupR {κ : Kx} {H G : Hp} {v : V} {l : List D} (r : RBq κ H G v (.tup l)) : Rp κ G v (.tup l) := by
  rcases r with r | ⟨a, xs, l', h1, h2, _⟩
  · exact r
  · cases h1
theorem s_minT {κ : Kx} : ClV κ [true, true] (rMinD κ.K) opMinT := fun W σ vs ds z H G env Q e r rx q => by
  unfold opMinT at e
  split at e
  · rename_i a b
    obtain ⟨v, u, rfl, r1, r2⟩ := RBs.two rx
    split at e
    · rename_i h
      cases e
      refine ⟨v, u, _, _, rfl, r1.dp r.sub h.1, r2.dp r.sub h.2.1, h.2.2.1, h.2.2.2, ?_⟩
      by_cases hj : PySem.W.dataLt (D.tup b).toP (D.tup a).toP = true
      · rw [if_pos hj] at q ⊢
        exact post_sh r r2.tupR q
      · rw [if_neg hj] at q ⊢
        exact post_sh r r1.tupR q
    · cases e
  · cases e
end Vs

set_option Elab.async false
set_option linter.all false
set_option maxRecDepth 100000
set_option maxHeartbeats 2000000
/-! Vo: own dicts with numbers and texts for keys. -/
namespace Vs
open PySem PySem.Spec PyProof.Rows L2
def D.key : D → Bool
  | .int _ => true
  | .str _ => true
  | _ => false
/-- what stands at a key -/
def dcG (k : D) : List (D × D) → Option D
  | [] => none
  | p :: r => if p.1.feq k = true then some p.2 else dcG k r
/-- a key's value put: in its place, or at the end -/
def dcP (k v : D) (l : List (D × D)) : List (D × D) := if (l.any fun p => p.1.feq k) = true then l.map (fun p => if p.1.feq k = true then (p.1, v) else p) else l ++ [(k, v)]
def keyD : D → Key
  | .int i => .inl i
  | .str w => .inr (S w)
  | _ => .inl 0
theorem kD_keyD {d : D} (h : d.key = true) : kD (keyD d) = d := by
  cases d with
  | int i => rfl
  | str w => exact congrArg D.str (S_cps w)
  | _ => cases h
theorem kD_feq (a b : Key) : (kD a).feq (kD b) = decide (a = b) := by
  cases a with
  | inl i =>
    cases b with
    | inl j =>
      show (i == j) = _
      rw [Bool.eq_iff_iff]
      simp
    | inr y => simp [kD, D.feq]
  | inr x =>
    cases b with
    | inl j => simp [kD, D.feq]
    | inr y =>
      show (x.cps.toList == y.cps.toList) = _
      rw [Bool.eq_iff_iff]
      simp only [beq_iff_eq, decide_eq_true_eq, Sum.inr.injEq]
      constructor
      · intro h
        rw [← S_list x, ← S_list y]
        show S x.cps.toList = S y.cps.toList
        rw [h]
      · intro h
        rw [h]
section
variable {κ : Kx} {G H : Hp}
theorem RBq.keyV {v : V} {d : D} (r : RBq κ H G v d) (h : d.key = true) : v = kV (keyD d) := by
  cases d with
  | int i => exact r.int
  | str w => exact r.str
  | _ => cases h
theorem RDc.get {kvs : List (Key × V)} {ds : List (D × D)} (r : RDc κ G kvs ds) (k : Key) : match valV kvs k, dcG (kD k) ds with
    | some v, some d => Rp κ G v d
    | none, none => True
    | _, _ => False := by
  induction r with
  | nil => exact True.intro
  | @cons j v d r ds h t ih =>
    by_cases e : j = k
    · rw [valV_pos (p := (j, v)) e, dcG, if_pos (show (kD j).feq (kD k) = true by rw [kD_feq]; exact decide_eq_true e)]
      exact h
    · rw [valV_neg (p := (j, v)) e, dcG, if_neg (show ¬ (kD j).feq (kD k) = true by rw [kD_feq]; simpa using e)]
      exact ih
theorem RDc.any {kvs : List (Key × V)} {ds : List (D × D)} (r : RDc κ G kvs ds) (k : Key) : (kvs.any fun p => decide (p.1 = k)) = ds.any fun p => p.1.feq (kD k) := by
  induction r with
  | nil => rfl
  | @cons j v d r ds h t ih => rw [List.any_cons, List.any_cons, ih, kD_feq]
theorem RDc.put1 {kvs : List (Key × V)} {ds : List (D × D)} (r : RDc κ G kvs ds) (k : Key) {v : V} {d : D} (h : Rp κ G v d) : RDc κ G (kvs.map fun p => if p.1 = k then (p.1, v) else p) (ds.map fun p => if p.1.feq (kD k) = true then (p.1, d) else p) := by
  induction r with
  | nil => exact .nil
  | @cons j u e r ds h1 t ih =>
    rw [List.map_cons, List.map_cons]
    by_cases q : j = k
    · rw [if_pos (show (j, u).1 = k from q), if_pos (show (kD j).feq (kD k) = true by rw [kD_feq]; exact decide_eq_true q)]
      exact .cons h ih
    · rw [if_neg (show ¬ (j, u).1 = k from q), if_neg (show ¬ (kD j).feq (kD k) = true by rw [kD_feq]; simpa using q)]
      exact .cons h1 ih
theorem RDc.snoc {kvs : List (Key × V)} {ds : List (D × D)} (r : RDc κ G kvs ds) (k : Key) {v : V} {d : D} (h : Rp κ G v d) : RDc κ G (kvs ++ [(k, v)]) (ds ++ [(kD k, d)]) := by
  induction r with
  | nil => exact .cons h .nil
  | cons h1 t ih => exact .cons h1 ih
theorem RDc.put {kvs : List (Key × V)} {ds : List (D × D)} (r : RDc κ G kvs ds) (k : Key) {v : V} {d : D} (h : Rp κ G v d) : RDc κ G (putK kvs k v) (dcP (kD k) d ds) := by
  unfold putK dcP
  rw [← r.any k]
  split
  · exact r.put1 k h
  · exact r.snoc k h
theorem RDc.length {kvs : List (Key × V)} {ds : List (D × D)} (r : RDc κ G kvs ds) : kvs.length = ds.length := by
  induction r with
  | nil => rfl
  | cons _ _ ih => rw [List.length_cons, List.length_cons, ih]
theorem RDc.keys {kvs : List (Key × V)} {ds : List (D × D)} (r : RDc κ G kvs ds) : RpA κ G ((kvs.map Prod.fst).map kV) (ds.map Prod.fst) := by
  induction r with
  | nil => exact .nil
  | @cons k v d r ds h t ih =>
    refine .cons ?_ ih
    cases k with
    | inl i => exact .int i
    | inr x =>
      have := Rp.str (κ := κ) (G := G) x.cps.toList
      rw [show S x.cps.toList = x from S_list x] at this
      exact this
end
/-- {} -/
def fDNew : Sm Rs := fun e => some (.ok (.tr (.dc [])) e)
/-- d[m] -/
def fDGet (i : Nat) (m : Sm D) : Sm D := fun env => match env[i]? with
  | some (.tr (.dc _)) => bnd m (fun k e => match e[i]? with
    | some (.tr (.dc l)) => if k.key = true then match dcG k l with
      | some d => some (.ok d e)
      | none => none else none
    | _ => none) env
  | _ => none
/-- d[mk] = m -/
def sDPutV (i : Nat) (mk m : Sm D) : Ss := sbnd m fun d env => match env[i]? with
  | some (.tr (.dc _)) => sbnd mk (fun k e => match e[i]? with
    | some (.tr (.dc l)) => if k.key = true ∧ l.length < szl then some (.nx (e.set i (.tr (.dc (dcP k d l))))) else none
    | _ => none) env
  | _ => none
/-- d.setdefault(mk, m) -/
def fDSet (i : Nat) (mk m : Sm D) : Sm D := fun env => match env[i]? with
  | some (.tr (.dc _)) => bnd mk (fun k => bnd m fun d e => match e[i]? with
    | some (.tr (.dc l)) => if k.key = true ∧ l.length < szl then match dcG k l with
      | some x => some (.ok x e)
      | none => some (.ok d (e.set i (.tr (.dc (dcP k d l)))))
      else none
    | _ => none) env
  | _ => none
section
variable {X : Cx} {κ : Kx} {W : WX} {e a b : Expr} {m mk : Sm D} {pos pos' p2 : Pos}
theorem dc_at {σ : L2.St} {H : Hp} {G : Gh} {env : En} (r : Rep κ H G σ env) {i : Nat} {l : List (D × D)} (e : env[i]? = some (.tr (.dc l))) : ∃ p kvs, σ[i]? = some (some (.ref p)) ∧ H p = some (.dK kvs) ∧ RDc κ G kvs l ∧ G.fp i = [p] ∧ G.g p = none := by
  obtain ⟨v, h1, ro⟩ := (r.slot i _ e).th rfl
  generalize hF : G.fp i = F at ro
  cases ro with
  | dc g1 g2 g3 => exact ⟨_, _, h1, g1, g3, rfl, g2⟩
theorem v_dnew : PE X (.Dict [] [] pos) (tX κ W (RV κ) fDNew) := PE.imp pe_dnewK fun σ H Q ⟨G, env, r, q⟩ => fun p hp => by
  have gp := r.sub.none hp
  refine q _ _ G (r.grow (gr (same_new hp)) (Same.refl _) (r.sub.new hp) (fun _ => rfl) fun i a o => (r.own o).2) ⟨[p], .dc upd_same gp .nil, fun a m => ?_⟩ (gr (same_new hp)) (fr_upd hp)
  rcases List.mem_cons.mp m with rfl | m
  · refine ⟨r.fre hp, fun o e => ?_⟩
    rw [hp] at e
    cases e
  · cases m
theorem v_dget {x : Str} {i : Nat} (hu : X.A.units + 1 < cLine) (hx : PE X (.Name x pos') (tVar i)) (hk : PE X e (tX κ W (RB κ) mk)) (hs : NoSl e := by exact fun _ _ => rfl) : PE X (.Subscript (.Name x pos') e pos) (tX κ W (RP κ) (fDGet i mk)) := PE.imp (pe_dget hu hx hk hs) fun σ H Q ⟨G, env, r, q⟩ => by
  unfold fDGet at q
  split at q
  · rename_i l0 e0
    obtain ⟨p, kvs0, h1, _⟩ := dc_at r e0
    refine ⟨_, h1, ?_⟩
    refine bind_post r q fun k e1 u H1 G1 _ r1 ru s1 f1 q1 => ?_
    split at q1
    · rename_i l e2
      split at q1
      · rename_i hk1
        obtain ⟨p', kvs, h2, h3, h4, h5, h6⟩ := dc_at r1 e2
        rw [h1] at h2
        cases h2
        have ek := RBq.keyV ru hk1
        have g := h4.get (keyD k)
        rw [kD_keyD hk1] at g
        split at q1
        · rename_i d hd
          rw [hd] at g
          cases hv : valV kvs (keyD k) with
          | none => rw [hv] at g; exact g.elim
          | some v =>
            rw [hv] at g
            refine ⟨p, v, rfl, ?_, q1 v H1 G1 r1 g (Grw.refl _) Fr.refl⟩
            rw [ek, ← hv]
            exact DGet.k h3
        · exact q1.elim
      · exact q1.elim
    · exact q1.elim
  · exact q.elim
theorem s_dput {x : Str} {i : Nat} (hu : X.A.units + 1 < cLine) (hx : PE X (.Name x pos') (tVar i)) (hk : PE X e (tX κ W (RB κ) mk)) (hv : PE X a (tX κ W (RP κ) m))
    (hs : swapsWith a (some (.Subscript (.Name x pos') e p2)) pos.line X.env = pure false := by rfl) : PS X (.Assign [.Subscript (.Name x pos') e p2] a pos) (tS κ W (sDPutV i mk m)) := PS.imp (ps_dput hu hx (im hk) (im hv) hs) fun D σ H ⟨G, env, r, q⟩ => by
  refine sbind_post r q fun d e1 v H1 G1 em r1 rv f1 q1 => ?_
  split at q1
  · rename_i l0 e0
    obtain ⟨p, kvs0, h1, _⟩ := dc_at r1 e0
    refine ⟨_, h1, ?_⟩
    refine sbind_post r1 q1 fun k e2 u H2 G2 em2 r2 ru f2 q2 => ?_
    split at q2
    · rename_i l e3
      split at q2
      · rename_i hc
        obtain ⟨p', kvs, h2, h3, h4, h5, h6⟩ := dc_at r2 e3
        rw [h1] at h2
        cases h2
        have ek := RBq.keyV ru hc.1
        have hp := h4.put (keyD k) (rv.mono f2.gk)
        rw [kD_keyD hc.1] at hp
        obtain ⟨G3, eg, rep, fr⟩ := r2.chgO (s' := .tr (.dc (dcP k d l))) (o' := .dc (dcP k d l)) (F := [p]) e3 rfl rfl rfl (fun z => nomatch z) rfl h1 (H' := upd H2 p (.dK (putK kvs (keyD k) v))) (.dc upd_same h6 hp) (fun c w hw hm => by
          have n : c ≠ p := fun z => hm (by rw [h5, z]; exact List.mem_singleton_self p)
          rw [upd_ne n]
          exact hw) fun c hm => .inl (by rw [h5]; exact hm)
        refine ⟨p, _, rfl, ?_, q2 σ _ G3 rep fr⟩
        rw [ek]
        exact DPut.k h3 (by rw [h4.length]; exact szl_lt (Nat.le_of_lt hc.2))
      · exact q2.elim
    · exact q2.elim
  · exact q1.elim
end
/-! ### range with a step -/
def rngC (lo c : Int) (n : Nat) : List D := (List.range n).map fun (k : Nat) => D.int (lo + (k : Int) * c)
def fRg3 (m : Sm (List D)) : Sm (List D) := bnd m fun ds e => match ds with
  | [.int i, .int j, .int c] => if (j ≤ 1000000 ∧ -1000000 ≤ j) ∧ (i ≤ 1000000 ∧ -1000000 ≤ i) ∧ 0 < c ∧ c ≤ 1000000 then some (.ok (rngC i c ((j - i + c - 1) / c).toNat) e) else none
  | _ => none
theorem rngC_yields {κ : Kx} {lo c : Int} {n : Nat} {σ : L2.St} {N : Addr → Prop} {H : Hp} {G : Gh} {env : En} : RI κ σ N H G env (Itc lo c n) (rngC lo c n) := by
  refine ⟨fun _ => False, fun _ z => z.elim, fun H' G' _ _ _ i => ⟨fun d hd => ?_, fun hi => ?_⟩⟩
  · unfold rngC at hd
    rw [List.getElem?_map] at hd
    cases hw : (List.range n)[i]? with
    | none => rw [hw] at hd; cases hd
    | some k =>
      rw [hw] at hd
      cases hd
      obtain ⟨hi, ek⟩ := List.getElem?_eq_some_iff.mp hw
      rw [List.getElem_range] at ek
      subst ek
      exact ⟨show i < n by simpa using hi, fun y H2 ⟨e2, ey⟩ => .inl ⟨e2, by rw [ey]; exact .int _⟩⟩
  · show n ≤ i
    unfold rngC at hi
    simpa using hi
theorem rgSize {i j c : Int} (hc : 0 < c) : Builtin.Range.rangeSize i j c = ((((j - i + c - 1) / c).toNat : Nat) : Int) := by
  unfold Builtin.Range.rangeSize
  rw [if_pos (show c > 0 from hc)]
  by_cases h : i < j
  · rw [if_pos h]
    have e : j - i + c - 1 = (j - i - 1) + 1 * c := by omega
    rw [e, Int.add_mul_ediv_right _ _ (by omega)]
    have h0 : 0 ≤ (j - i - 1) / c := Int.ediv_nonneg (by omega) (by omega)
    omega
  · rw [if_neg h]
    have h1 : (j - i + c - 1) / c < 1 := by
      rw [Int.ediv_lt_iff_lt_mul hc]
      omega
    omega
theorem rgC_of {i j c : Int} (hj : j ≤ 1000000 ∧ -1000000 ≤ j) (hi : i ≤ 1000000 ∧ -1000000 ≤ i) (hc : 0 < c) (hc2 : c ≤ 1000000) : RgC i j c ((j - i + c - 1) / c).toNat := by
  refine ⟨by omega, by omega, ?_, rgSize hc⟩
  have h2 := rangeSize_toNat_le i j c
  have h3 := rangeSize_toNat i j c
  generalize hS : Builtin.Range.rangeSize i j c = z at h2 h3
  unfold Builtin.Range.small
  rw [hS]
  simp only [Builtin.Range.rangeFitsLong, Bool.and_eq_true, Bool.or_eq_true, decide_eq_true_eq, beq_iff_eq, show c > 0 from hc, if_true]
  omega
section
variable {X : Cx} {κ : Kx} {W : WX} {a b c : Expr} {tg : Expr} {p pos : Pos} {ms : Sm (List D)}
theorem RBs.three {κ : Kx} {H G : Hp} {vs : List V} {d e f : D} (r : RBs κ H G [true, true, true] vs [d, e, f]) : ∃ v u w, vs = [v, u, w] ∧ RBq κ H G v d ∧ RBq κ H G u e ∧ RBq κ H G w f := by
  cases r with
  | bo r t =>
    obtain ⟨u, w, rfl, r2, r3⟩ := t.two
    exact ⟨_, _, _, rfl, r, r2, r3⟩
theorem i_rg3 {ml : List Bool} (hml : ml = [true, true, true]) (hg : Gl X "range") (hm : X.mg "range" = none) (h : PA X [a, b, c] (tX κ W (RA κ ml) ms))
    (hs : starEach [a, b, c] X.env = (false, eval a X.env) :: starEach [b, c] X.env := by rfl) (hpl : (backTo pos (starEach [b, c] X.env)).any (·.1) = false := by rfl) :
    PI X tg (.Call (.Name "range" p) [a, b, c] [] pos) (tX κ W (RI κ) (fRg3 ms)) := ⟨fun pins s σ H R I ⟨G, env, r, q⟩ => (pi_range3 hg hm h hs hpl).run pins s σ H R I (bind_post r q fun d e1 v H1 G1 em r1 rv s1 f1 q1 => by
  subst hml
  split at q1
  · rename_i i j k
    obtain ⟨u, w, z, rfl, ru, rw', rz⟩ := RBs.three rv
    split at q1
    · rename_i hc
      exact ⟨i, j, k, _, by rw [ru.int, rw'.int, rz.int], rgC_of hc.1 hc.2.1 hc.2.2.1 hc.2.2.2, q1 _ H1 G1 r1 rngC_yields (Grw.refl _) Fr.refl⟩
    · exact q1.elim
  · exact q1.elim)⟩
end
end Vs

set_option Elab.async false
set_option linter.all false
set_option maxRecDepth 100000
set_option maxHeartbeats 4000000
/-! Vm: plain lemmas about the functions that the reading gives. -/
namespace Vs
open PySem L2
theorem rng_len (lo : Int) (n : Nat) : (rng lo n).length = n := by simp [rng]
theorem rng_get {lo : Int} {n i : Nat} {d : D} (h : (rng lo n)[i]? = some d) : i < n ∧ d = .int (lo + (i : Int)) := by
  have hi : i < (rng lo n).length := (List.getElem?_eq_some_iff.mp h).1
  rw [rng_len] at hi
  unfold rng at h
  rw [List.getElem?_map, List.getElem?_range hi] at h
  cases h
  exact ⟨hi, rfl⟩
/-- a loop that may be left early -/
theorem forL_out {tg : D → En → Option En} {body : Ss} (P : Nat → En → Prop) (R : SO → Prop) : ∀ (ds : List D) (k : Nat) (e : En), P k e →
    (∀ i d e, ds[i]? = some d → P (k + i) e → ∃ e1, tg d e = some e1 ∧ ∃ o, body e1 = some o ∧ match o with
      | .nx e2 => P (k + i + 1) e2
      | .ct e2 => P (k + i + 1) e2
      | .bk e2 => R (.nx e2)
      | o => R o) → (∀ e, P (k + ds.length) e → R (.nx e)) → ∃ o, forL tg body ds e = some o ∧ R o
  | [], k, e, h, _, hd => ⟨_, rfl, hd e h⟩
  | d :: ds, k, e, h, hs, hd => by
    obtain ⟨e1, h1, o, h2, h3⟩ := hs 0 d e rfl h
    have step : ∀ e2, P (k + 1) e2 → ∃ o, forL tg body ds e2 = some o ∧ R o := fun e2 h4 =>
      forL_out P R ds (k + 1) e2 h4 (fun i d' e' q p => by
        have := hs (i + 1) d' e' (by simpa using q) (by rw [show k + (i + 1) = k + 1 + i by omega]; exact p)
        rw [show k + (i + 1) = k + 1 + i by omega] at this
        exact this) fun e' p => hd e' (by rw [List.length_cons, show k + (ds.length + 1) = k + 1 + ds.length by omega]; exact p)
    dsimp only [forL]
    rw [h1]
    dsimp only
    rw [h2]
    cases o with
    | nx e2 => exact step e2 h3
    | ct e2 => exact step e2 h3
    | bk e2 => exact ⟨_, rfl, h3⟩
    | rt r => exact ⟨_, rfl, h3⟩
    | rv r e2 => exact ⟨_, rfl, h3⟩
    | ex x e2 => exact ⟨_, rfl, h3⟩
/-- a loop that runs through -/
theorem forL_inv {tg : D → En → Option En} {body : Ss} (P : Nat → En → Prop) (ds : List D) (e : En) (h : P 0 e)
    (hs : ∀ i d e, ds[i]? = some d → P i e → ∃ e1, tg d e = some e1 ∧ ∃ e2, body e1 = some (.nx e2) ∧ P (i + 1) e2) : ∃ e', forL tg body ds e = some (.nx e') ∧ P ds.length e' := by
  obtain ⟨o, h1, e', h2, h3⟩ := forL_out P (fun o => ∃ e', o = .nx e' ∧ P ds.length e') ds 0 e h (fun i d e q p => by
    obtain ⟨e1, g1, e2, g2, g3⟩ := hs i d e q (by simpa using p)
    exact ⟨e1, g1, _, g2, by simpa using g3⟩) fun e p => ⟨e, rfl, by simpa using p⟩
  subst h2
  exact ⟨e', h1, h3⟩
/-- a while by a number that falls -/
theorem whL_out {t : Sm Bool} {body : Ss} (P : Nat → En → Prop) (R : SO → Prop)
    (hs : ∀ m e, P m e → (∃ e1, t e = some (.ok false e1) ∧ R (.nx e1)) ∨ ∃ e1, t e = some (.ok true e1) ∧ ∃ o, body e1 = some o ∧ match o with
      | .nx e2 => ∃ m', m' < m ∧ P m' e2
      | .ct e2 => ∃ m', m' < m ∧ P m' e2
      | .bk e2 => R (.nx e2)
      | o => R o) : ∀ (n m : Nat) (e : En), m < n → P m e → ∃ o, whL n t body e = some o ∧ R o
  | 0, m, e, h, _ => absurd h (Nat.not_lt_zero _)
  | n + 1, m, e, h, p => by
    rcases hs m e p with ⟨e1, h1, h2⟩ | ⟨e1, h1, o, h2, h3⟩
    · refine ⟨.nx e1, ?_, h2⟩
      dsimp only [whL, sbnd]
      rw [h1]
    · have run : ∀ o', (match o with
        | .nx e2 => whL n t body e2
        | .ct e2 => whL n t body e2
        | .bk e2 => some (.nx e2)
        | o => some o) = some o' → whL (n + 1) t body e = some o' := fun o' q => by
        dsimp only [whL, sbnd]
        rw [h1]
        dsimp only
        rw [h2]
        cases o <;> exact q
      cases o with
      | nx e2 =>
        obtain ⟨m', g1, g2⟩ := h3
        obtain ⟨o', g3, g4⟩ := whL_out P R hs n m' e2 (by omega) g2
        exact ⟨o', run o' g3, g4⟩
      | ct e2 =>
        obtain ⟨m', g1, g2⟩ := h3
        obtain ⟨o', g3, g4⟩ := whL_out P R hs n m' e2 (by omega) g2
        exact ⟨o', run o' g3, g4⟩
      | bk e2 => exact ⟨_, run _ rfl, h3⟩
      | rt r => exact ⟨_, run _ rfl, h3⟩
      | rv r e2 => exact ⟨_, run _ rfl, h3⟩
      | ex x e2 => exact ⟨_, run _ rfl, h3⟩
theorem atI_of {α : Type} (l : List α) {i : Int} (h : 0 ≤ i) : atI l i = l[i.toNat]? := by
  unfold atI ixN
  rw [if_pos h]
  by_cases q : i < l.length
  · rw [if_pos q]
    rfl
  · rw [if_neg q]
    symm
    show l[i.toNat]? = none
    rw [List.getElem?_eq_none_iff]
    omega
theorem sIx_pos (n d : Nat) {i : Int} (h : 0 ≤ i) : HT.sIx n d (some i) = min i.toNat n := by
  show (if i < 0 then (i + (n : Int)).toNat else min i.toNat n) = min i.toNat n
  rw [if_neg (by omega)]
theorem cutL_take {α : Type} (l : List α) {i : Int} (h : 0 ≤ i) : cutL l none (some i) = l.take i.toNat := by
  unfold cutL
  rw [HT.sIx_none, sIx_pos _ _ h, List.drop_zero, Nat.sub_zero]
  by_cases q : i.toNat ≤ l.length
  · rw [Nat.min_eq_left q]
  · rw [Nat.min_eq_right (by omega), List.take_length, List.take_of_length_le (by omega)]
theorem cutL_drop {α : Type} (l : List α) {i : Int} (h : 0 ≤ i) : cutL l (some i) none = l.drop i.toNat := by
  unfold cutL
  rw [HT.sIx_none, sIx_pos _ _ h]
  by_cases q : i.toNat ≤ l.length
  · rw [Nat.min_eq_left q, List.take_of_length_le (by rw [List.length_drop]; omega)]
  · rw [Nat.min_eq_right (by omega), List.drop_length, List.drop_of_length_le (by omega)]
    simp
theorem cutL_mid {α : Type} (l : List α) {i j : Int} (h : 0 ≤ i) (h2 : 0 ≤ j) : cutL l (some i) (some j) = (l.drop i.toNat).take (j.toNat - i.toNat) := by
  unfold cutL
  rw [sIx_pos _ _ h, sIx_pos _ _ h2]
  by_cases q : i.toNat ≤ l.length
  · rw [Nat.min_eq_left q]
    by_cases q2 : j.toNat ≤ l.length
    · rw [Nat.min_eq_left q2]
    · rw [Nat.min_eq_right (show l.length ≤ j.toNat by omega), List.take_of_length_le (by rw [List.length_drop]; omega), List.take_of_length_le (by rw [List.length_drop]; omega)]
  · rw [Nat.min_eq_right (show l.length ≤ i.toNat by omega), List.drop_length, List.drop_of_length_le (by omega)]
    simp
theorem bits_ok {i : Int} {j : Int} (h : Builtin.Int.intBits i ≤ 1048577) (hj : Builtin.Int.intBits j ≤ 1000000) : Builtin.Int.intBits i + Builtin.Int.intBits j ≤ 134217728 := by omega
/-- lists of whole numbers compared -/
theorem eqv_ints : ∀ a b : List Int, PyData.eqvAll (toPA (a.map D.int)) (toPA (b.map D.int)) = decide (a = b)
  | [], [] => by simp [toPA, PyData.eqvAll]
  | [], y :: b => by simp [toPA, PyData.eqvAll]
  | x :: a, [] => by simp [toPA, PyData.eqvAll]
  | x :: a, y :: b => by
    have ih := eqv_ints a b
    simp only [List.map_cons, toPA, D.toP, PyData.eqvAll, PyData.eqv, ih]
    by_cases h : x = y
    · subst h
      by_cases h2 : a = b <;> simp [h2]
    · simp [h]
theorem plA_ints : ∀ a : List Int, plA (a.map D.int) = true
  | [] => rfl
  | x :: a => by simp only [List.map_cons, plA, D.pl, plA_ints a, Bool.and_self]
theorem dep_ints : ∀ a : List Int, PyData.depthAll (toPA (a.map D.int)) = 0
  | [] => by simp [toPA, PyData.depthAll]
  | x :: a => by simp only [List.map_cons, toPA, D.toP, PyData.depthAll, PyData.depth, dep_ints a]; rfl
theorem okE_ints (a : List Int) : (D.lst (a.map D.int)).okE = true := by
  unfold D.okE
  simp only [D.pl, plA_ints, D.toP, PyData.depth, dep_ints]
  decide
theorem cEq_ints (a b : List Int) : cEq (.lst (a.map D.int)) (.lst (b.map D.int)) = some (decide (a = b)) := by
  show (if (D.lst (a.map D.int)).okE = true ∧ (D.lst (b.map D.int)).okE = true then some (PyData.eqv (D.lst (a.map D.int)).toP (D.lst (b.map D.int)).toP) else none) = _
  rw [if_pos ⟨okE_ints a, okE_ints b⟩]
  simp only [D.toP, PyData.eqv, eqv_ints]
theorem cNe_ints (a b : List Int) : cNe (.lst (a.map D.int)) (.lst (b.map D.int)) = some (!decide (a = b)) := by
  unfold cNe
  rw [cEq_ints]
/-- a comprehension that runs through -/
theorem lcL_fm {f : D → En → Option En} {tt : Sm Bool} {te : Sm D} {vs : List Nat} (P : En → Prop) (g : D → Option D) : ∀ (ds acc : List D) (e : En), P e →
    (∀ d e, d ∈ ds → P e → ∃ e1, f d e = some e1 ∧ ((∃ e2, tt e1 = some (.ok false e2) ∧ g d = none ∧ P (unE vs e2)) ∨ ∃ e2 y e3, tt e1 = some (.ok true e2) ∧ te e2 = some (.ok y e3) ∧ g d = some y ∧ P (unE vs e3))) →
    ∃ e', lcL f tt te vs ds acc e = some (.ok (.ow (acc ++ ds.filterMap g)) e') ∧ P e'
  | [], acc, e, h, _ => ⟨e, by dsimp only [lcL]; rw [List.filterMap_nil, List.append_nil], h⟩
  | d :: ds, acc, e, h, hs => by
    have rest := fun acc e h => lcL_fm P g ds acc e h fun d e m => hs d e (List.mem_cons_of_mem _ m)
    obtain ⟨e1, h1, ⟨e2, h2, h3, h4⟩ | ⟨e2, y, e3, h2, h3, h4, h5⟩⟩ := hs d e List.mem_cons_self h
    · dsimp only [lcL]
      rw [h1]
      dsimp only
      rw [h2]
      obtain ⟨e', r1, r2⟩ := rest acc _ h4
      exact ⟨e', by rw [List.filterMap_cons_none h3]; exact r1, r2⟩
    · dsimp only [lcL]
      rw [h1]
      dsimp only
      rw [h2]
      dsimp only
      rw [h3]
      obtain ⟨e', r1, r2⟩ := rest (acc ++ [y]) _ h5
      exact ⟨e', by rw [List.filterMap_cons_some h4]; rw [List.append_assoc] at r1; exact r1, r2⟩
/-- .. without a test, one item for each -/
theorem lcL_map {f : D → En → Option En} {te : Sm D} {vs : List Nat} (P : En → Prop) (g : D → D) (ds acc : List D) (e : En) (h : P e)
    (hs : ∀ d e, d ∈ ds → P e → ∃ e1, f d e = some e1 ∧ ∃ e3, te e1 = some (.ok (g d) e3) ∧ P (unE vs e3)) :
    ∃ e', lcL f tYs te vs ds acc e = some (.ok (.ow (acc ++ ds.map g)) e') ∧ P e' := by
  obtain ⟨e', h1, h2⟩ := lcL_fm (f := f) (tt := tYs) (te := te) (vs := vs) P (fun d => some (g d)) ds acc e h fun d e m p => by
    obtain ⟨e1, g1, e3, g2, g3⟩ := hs d e m p
    exact ⟨e1, g1, .inr ⟨e1, g d, e3, rfl, g2, rfl, g3⟩⟩
  rw [List.filterMap_eq_map'] at h1
  exact ⟨e', h1, h2⟩
theorem alike_ints : ∀ a b : List Int, PySem.W.alikeAll (toPA (a.map D.int)) (toPA (b.map D.int)) = true
  | [], _ => by simp [toPA, PySem.W.alikeAll]
  | _ :: _, [] => by simp [toPA, PySem.W.alikeAll]
  | x :: a, y :: b => by simp only [List.map_cons, toPA, D.toP, PySem.W.alikeAll, PySem.W.alike, alike_ints a b, Bool.and_self]
theorem cLtA_ints (a b : List Int) : cLtA (.lst (a.map D.int)) (.lst (b.map D.int)) = some (PySem.W.dataLt (D.lst (a.map D.int)).toP (D.lst (b.map D.int)).toP) := by
  show dLt _ _ = _
  unfold dLt
  rw [if_pos]
  refine ⟨by simp only [D.pl, plA_ints], by simp only [D.pl, plA_ints], ?_, ?_⟩
  · simp only [D.toP, PySem.W.alike, alike_ints]
  · simp only [D.toP, PyData.depth, dep_ints]
    decide
mutual
theorem eqv_self : ∀ d : D, PyData.eqv d.toP d.toP = true
  | .non => by simp [D.toP, PyData.eqv]
  | .bl b => by simp [D.toP, PyData.eqv]
  | .int i => by simp [D.toP, PyData.eqv]
  | .str w => by simp [D.toP, PyData.eqv]
  | .lst l => by simp only [D.toP, PyData.eqv, eqvA_self l]
  | .tup l => by simp only [D.toP, PyData.eqv, eqvA_self l]
  | .ob _ _ => by simp [D.toP, PyData.eqv]
  | .scr _ => by simp [D.toP, PyData.eqv]
  | .xn _ _ => by simp [D.toP, PyData.eqv]
theorem eqvA_self : ∀ l : List D, PyData.eqvAll (toPA l) (toPA l) = true
  | [] => by simp [toPA, PyData.eqvAll]
  | d :: l => by simp only [toPA, PyData.eqvAll, eqv_self d, eqvA_self l, Bool.and_self]
end
theorem cEq_self {l : List D} (h : (D.lst l).okE = true) : cEq (.lst l) (.lst l) = some true := by
  show (if (D.lst l).okE = true ∧ (D.lst l).okE = true then some (PyData.eqv (D.lst l).toP (D.lst l).toP) else none) = _
  rw [if_pos ⟨h, h⟩, eqv_self]
theorem cNe_self {l : List D} (h : (D.lst l).okE = true) : cNe (.lst l) (.lst l) = some false := by
  unfold cNe
  rw [cEq_self h]
  rfl
theorem plA_of : ∀ {l : List D}, (∀ d ∈ l, d.pl = true) → plA l = true
  | [], _ => by simp [plA]
  | d :: l, h => by simp only [plA, h d List.mem_cons_self, plA_of fun x m => h x (List.mem_cons_of_mem _ m), Bool.and_self]
theorem depA_of {n : Nat} : ∀ {l : List D}, (∀ d ∈ l, d.toP.depth ≤ n) → PyData.depthAll (toPA l) ≤ n
  | [], _ => by simp [toPA, PyData.depthAll]
  | d :: l, h => by
    have h1 := h d List.mem_cons_self
    have h2 := depA_of fun x m => h x (List.mem_cons_of_mem _ m)
    simp only [toPA, PyData.depthAll]
    omega
theorem okE_of {n : Nat} {l : List D} (hn : n ≤ 63) (h : ∀ d ∈ l, d.pl = true ∧ d.toP.depth ≤ n) : (D.lst l).okE = true := by
  have h1 := plA_of fun d m => (h d m).1
  have h2 := depA_of fun d m => (h d m).2
  unfold D.okE
  simp only [D.pl, D.toP, PyData.depth, h1, Bool.true_and, decide_eq_true_iff]
  omega
theorem okE_two (i j : Int) : (D.tup [.int i, .int j]).okE = true := by
  simp [D.okE, D.pl, plA, D.toP, toPA, PyData.depth, PyData.depthAll]
theorem okE_three (i j k : Int) : (D.tup [.int i, .int j, .int k]).okE = true := by
  simp [D.okE, D.pl, plA, D.toP, toPA, PyData.depth, PyData.depthAll]
theorem okE_int (i : Int) : (D.int i).okE = true := by simp [D.okE, D.pl, D.toP, PyData.depth]
theorem okE_non : D.non.okE = true := by simp [D.okE, D.pl, D.toP, PyData.depth]
theorem okE_bl (b : Bool) : (D.bl b).okE = true := by simp [D.okE, D.pl, D.toP, PyData.depth]
theorem okE_nil : (D.lst []).okE = true := by decide
/-- a loop as a fold; j: what the slots hold that nobody reads again -/
theorem forL_fold {α β J : Type} {tg : D → En → Option En} {body : Ss} (enc : α → J → En) (toD : β → D) (step : α → β → α) (Inv : α → Prop) : ∀ (w : List β) (s : α) (j : J), Inv s →
    (∀ b ∈ w, ∀ s j, Inv s → ∃ e1, tg (toD b) (enc s j) = some e1 ∧ ∃ j', body e1 = some (.nx (enc (step s b) j')) ∧ Inv (step s b)) →
    ∃ j', forL tg body (w.map toD) (enc s j) = some (.nx (enc (w.foldl step s) j')) ∧ Inv (w.foldl step s)
  | [], s, j, h, _ => ⟨j, rfl, h⟩
  | b :: w, s, j, h, hs => by
    obtain ⟨e1, h1, j1, h2, h3⟩ := hs b List.mem_cons_self s j h
    obtain ⟨j', h4, h5⟩ := forL_fold enc toD step Inv w (step s b) j1 h3 fun b' m => hs b' (List.mem_cons_of_mem _ m)
    refine ⟨j', ?_, h5⟩
    rw [List.map_cons]
    dsimp only [forL]
    rw [h1]
    dsimp only
    rw [h2]
    exact h4
/-- a loop that returns at the first of some kind -/
theorem forL_find {β J : Type} {tg : D → En → Option En} {body : Ss} (enc : J → En) (toD : β → D) (p : β → Bool) (res : β → Rs) : ∀ (w : List β) (j : J),
    (∀ b ∈ w, ∀ j, ∃ e1, tg (toD b) (enc j) = some e1 ∧ ((p b = true ∧ body e1 = some (.rt (res b))) ∨ (p b = false ∧ ∃ j', body e1 = some (.nx (enc j'))))) →
    (∃ b, w.find? p = some b ∧ b ∈ w ∧ forL tg body (w.map toD) (enc j) = some (.rt (res b))) ∨ (w.find? p = none ∧ ∃ j', forL tg body (w.map toD) (enc j) = some (.nx (enc j')))
  | [], j, _ => .inr ⟨rfl, j, rfl⟩
  | b :: w, j, hs => by
    obtain ⟨e1, h1, h2⟩ := hs b List.mem_cons_self j
    rcases h2 with ⟨hp, h2⟩ | ⟨hp, j1, h2⟩
    · refine .inl ⟨b, by rw [List.find?_cons_of_pos hp], List.mem_cons_self, ?_⟩
      rw [List.map_cons]
      dsimp only [forL]
      rw [h1]
      dsimp only
      rw [h2]
    · have step : ∀ o, forL tg body (w.map toD) (enc j1) = o → forL tg body ((b :: w).map toD) (enc j) = o := fun o q => by
        rw [List.map_cons]
        dsimp only [forL]
        rw [h1]
        dsimp only
        rw [h2]
        exact q
      rcases forL_find enc toD p res w j1 fun b' m => hs b' (List.mem_cons_of_mem _ m) with ⟨b', q1, q2, q3⟩ | ⟨q1, j2, q3⟩
      · exact .inl ⟨b', by rw [List.find?_cons_of_neg (by rw [hp]; exact Bool.false_ne_true)]; exact q1, List.mem_cons_of_mem _ q2, step _ q3⟩
      · exact .inr ⟨by rw [List.find?_cons_of_neg (by rw [hp]; exact Bool.false_ne_true)]; exact q1, j2, step _ q3⟩
/-- .. that raises at the first of some kind -/
theorem forL_findX {β J : Type} {tg : D → En → Option En} {body : Ss} (enc : J → En) (toD : β → D) (p : β → Bool) (res : β → Ex) : ∀ (w : List β) (j : J),
    (∀ b ∈ w, ∀ j, ∃ e1, tg (toD b) (enc j) = some e1 ∧ ((p b = true ∧ ∃ j', body e1 = some (.ex (res b) (enc j'))) ∨ (p b = false ∧ ∃ j', body e1 = some (.nx (enc j'))))) →
    (∃ b, w.find? p = some b ∧ b ∈ w ∧ ∃ j', forL tg body (w.map toD) (enc j) = some (.ex (res b) (enc j'))) ∨ (w.find? p = none ∧ ∃ j', forL tg body (w.map toD) (enc j) = some (.nx (enc j')))
  | [], j, _ => .inr ⟨rfl, j, rfl⟩
  | b :: w, j, hs => by
    obtain ⟨e1, h1, h2⟩ := hs b List.mem_cons_self j
    rcases h2 with ⟨hp, j1, h2⟩ | ⟨hp, j1, h2⟩
    · refine .inl ⟨b, by rw [List.find?_cons_of_pos hp], List.mem_cons_self, j1, ?_⟩
      rw [List.map_cons]
      dsimp only [forL]
      rw [h1]
      dsimp only
      rw [h2]
    · have step : ∀ o, forL tg body (w.map toD) (enc j1) = o → forL tg body ((b :: w).map toD) (enc j) = o := fun o q => by
        rw [List.map_cons]
        dsimp only [forL]
        rw [h1]
        dsimp only
        rw [h2]
        exact q
      rcases forL_findX enc toD p res w j1 fun b' m => hs b' (List.mem_cons_of_mem _ m) with ⟨b', q1, q2, j2, q3⟩ | ⟨q1, j2, q3⟩
      · exact .inl ⟨b', by rw [List.find?_cons_of_neg (by rw [hp]; exact Bool.false_ne_true)]; exact q1, List.mem_cons_of_mem _ q2, j2, step _ q3⟩
      · exact .inr ⟨by rw [List.find?_cons_of_neg (by rw [hp]; exact Bool.false_ne_true)]; exact q1, j2, step _ q3⟩
/-- a comprehension without a test -/
theorem lcL_fun {β J : Type} {f : D → En → Option En} {te : Sm D} {vs : List Nat} (enc : J → En) (toD : β → D) (g : β → D) : ∀ (w : List β) (acc : List D) (j : J),
    (∀ b ∈ w, ∀ j, ∃ e1, f (toD b) (enc j) = some e1 ∧ ∃ e3, te e1 = some (.ok (g b) e3) ∧ ∃ j', unE vs e3 = enc j') →
    ∃ j', lcL f tYs te vs (w.map toD) acc (enc j) = some (.ok (.ow (acc ++ w.map g)) (enc j'))
  | [], acc, j, _ => ⟨j, by simp [lcL]⟩
  | b :: w, acc, j, hs => by
    obtain ⟨e1, h1, e3, h2, j1, h3⟩ := hs b List.mem_cons_self j
    obtain ⟨j', h4⟩ := lcL_fun enc toD g w (acc ++ [g b]) j1 fun b' m => hs b' (List.mem_cons_of_mem _ m)
    refine ⟨j', ?_⟩
    rw [List.map_cons]
    dsimp only [lcL]
    rw [h1]
    dsimp only
    rw [show tYs e1 = some (.ok true e1) from rfl]
    dsimp only
    rw [h2]
    dsimp only
    rw [h3, h4, List.append_assoc]
    rfl
/-- .. with a test -/
theorem lcL_test {β J : Type} {f : D → En → Option En} {tt : Sm Bool} {te : Sm D} {vs : List Nat} (enc : J → En) (toD : β → D) (p : β → Bool) (g : β → D) : ∀ (w : List β) (acc : List D) (j : J),
    (∀ b ∈ w, ∀ j, ∃ e1, f (toD b) (enc j) = some e1 ∧ ∃ e2, tt e1 = some (.ok (p b) e2) ∧ ((p b = false ∧ ∃ j', unE vs e2 = enc j') ∨ (p b = true ∧ ∃ e3, te e2 = some (.ok (g b) e3) ∧ ∃ j', unE vs e3 = enc j'))) →
    ∃ j', lcL f tt te vs (w.map toD) acc (enc j) = some (.ok (.ow (acc ++ (w.filter p).map g)) (enc j'))
  | [], acc, j, _ => ⟨j, by simp [lcL]⟩
  | b :: w, acc, j, hs => by
    obtain ⟨e1, h1, e2, h2, h3⟩ := hs b List.mem_cons_self j
    rcases h3 with ⟨hp, j1, h3⟩ | ⟨hp, e3, h4, j1, h3⟩
    · obtain ⟨j', h5⟩ := lcL_test enc toD p g w acc j1 fun b' m => hs b' (List.mem_cons_of_mem _ m)
      refine ⟨j', ?_⟩
      rw [List.map_cons]
      dsimp only [lcL]
      rw [h1]
      dsimp only
      rw [h2, hp]
      dsimp only
      rw [h3, h5, List.filter_cons_of_neg (by rw [hp]; exact Bool.false_ne_true)]
    · obtain ⟨j', h5⟩ := lcL_test enc toD p g w (acc ++ [g b]) j1 fun b' m => hs b' (List.mem_cons_of_mem _ m)
      refine ⟨j', ?_⟩
      rw [List.map_cons]
      dsimp only [lcL]
      rw [h1]
      dsimp only
      rw [h2, hp]
      dsimp only
      rw [h4]
      dsimp only
      rw [h3, h5, List.filter_cons_of_pos hp, List.map_cons, List.append_assoc]
      rfl
/-! step by step -/
def fin : Option SO → Option FO
  | some (.nx _) => some (.rt (.sh .non))
  | some (.rt r) => some (.rt r)
  | some (.ex x _) => some (.ex x)
  | _ => none
theorem run_fin {ms : List Bool} {k : Nat} {body : Ss} {ds : List D} {r : Option FO} (h : fin (body (inis ms ds ++ List.replicate k .un)) = r) : runDef ms k body ds = r := by
  unfold runDef
  rw [← h]
  unfold fin
  cases body (inis ms ds ++ List.replicate k .un) with
  | none => rfl
  | some o => cases o <;> rfl
theorem fin_seq {m n : Ss} {e e1 : En} {r : Option FO} (h : m e = some (.nx e1)) (k : fin (n e1) = r) : fin (sSeq m n e) = r := by
  unfold sSeq
  rw [h]
  exact k
theorem fin_ret {m : Ss} {e : En} {x : Rs} (h : m e = some (.rt x)) : fin (m e) = some (.rt x) := by
  rw [h]
  rfl
theorem fin_seq_rt {m n : Ss} {e : En} {x : Rs} (h : m e = some (.rt x)) : fin (sSeq m n e) = some (.rt x) := by
  unfold sSeq
  rw [h]
  rfl
theorem seq_nx {m n : Ss} {e e1 : En} {r : Option SO} (h : m e = some (.nx e1)) (k : n e1 = r) : sSeq m n e = r := by
  unfold sSeq
  rw [h]
  exact k
/-- a loop that only goes on -/
theorem forL_each {β J : Type} {tg : D → En → Option En} {body : Ss} (enc : J → En) (toD : β → D) : ∀ (w : List β) (j : J), (∀ b ∈ w, ∀ j, ∃ e1, tg (toD b) (enc j) = some e1 ∧ ∃ j', body e1 = some (.nx (enc j')) ∨ body e1 = some (.ct (enc j'))) → ∃ j', forL tg body (w.map toD) (enc j) = some (.nx (enc j'))
  | [], j, _ => ⟨j, rfl⟩
  | b :: w, j, h => by
    obtain ⟨e1, h1, j1, h2⟩ := h b List.mem_cons_self j
    obtain ⟨j', h3⟩ := forL_each enc toD w j1 fun c m => h c (List.mem_cons_of_mem _ m)
    refine ⟨j', ?_⟩
    rw [List.map_cons]
    dsimp only [forL]
    rw [h1]
    dsimp only
    rcases h2 with h2 | h2
    · rw [h2]
      exact h3
    · rw [h2]
      exact h3
theorem seq_ct {m n : Ss} {e e1 : En} (h : m e = some (.ct e1)) : sSeq m n e = some (.ct e1) := by
  unfold sSeq
  rw [h]
theorem seq_rt {m n : Ss} {e : En} {x : Rs} (h : m e = some (.rt x)) : sSeq m n e = some (.rt x) := by
  unfold sSeq
  rw [h]
end Vs

set_option Elab.async false
set_option linter.all false
set_option maxRecDepth 100000
set_option maxHeartbeats 4000000
namespace Lw
open PySem L2 Vs
noncomputable section
abbrev fuel : Nat := 10000000000000000000000000000000000000000
theorem lt_fuel {m : Nat} (h : m < 100000) : m < fuel := by unfold fuel; omega
abbrev cl_Chain : Nat := 0
abbrev x_LetterError : Nat := 0
abbrev x_NoUse : Nat := 1
def xs : Nat → Nat → Option Bool
  | 0, 1 => some false
  | 1, 1 => some true
  | _, _ => none
def ks : Nat → Nat → Option Bool
  | _, _ => none
def xf : Nat → Option Str
  | 1 => some "at"
  | _ => none
def fld_pacts : Nat → Option Nat
  | 0 => some 0
  | _ => none
def fld_steps : Nat → Option Nat
  | 0 => some 1
  | _ => none
def fld_words : Nat → Option Nat
  | 0 => some 2
  | _ => none
def b_law_letters : Ss := sSeq (sAsg 2 (shm (eC (.str [97, 98, 99, 100, 101, 102, 103, 104, 105, 106, 107, 108, 109, 110, 111, 112, 113, 114, 115, 116, 117, 118, 119, 120, 121, 122])))) (sSeq (sAsg 3 (fOp opAdd (eC (.int 1)) (frz (fOp opMod (eB 0) (eB 1))))) (sSeq (sAsg 4 (fOp opMod (frz (fOp opDiv (eB 0) (eB 1))) (eC (.int 26)))) (sSeq (sAsg 5 (fOp opAdd (eC (.int 1)) (frz (fOp opMul (eC (.int 2)) (frz (fOp opMod (frz (fOp opDiv (eB 0) (eC (.int 157)))) (eC (.int 6)))))))) (sRet (fM1 opJoin (eC (.str [])) (frz (fLc (fRg1 (aCons (eB 3) (aNil))) (tgN 6) (tYs) (fOp opIx (eB 2) (frz (fOp opMod (frz (fOp opAdd (eB 4) (frz (fOp opMul (eB 5) (eB 6))))) (eC (.int 26))))) [6])))))))
def g_law_letters : FSem := runDef [true, true] 5 b_law_letters
def i1_law_uses : Ss := sIf (fNot (fTru (eB 6))) (sPar 7 8 (aCons (eV 8) (aCons (eV 7) (aNil)))) (sNil)
def i2_law_uses : Ss := sIf (fOp cEq (frz (fSl (eB 1) (poS (eB 9)) (poS (frz (fOp opAdd (eB 9) (frz (fCl opLen (aCons (eB 7) (aNil))))))))) (eB 7)) (sApp 3 (fTup (aCons (eV 4) (aCons (eV 9) (aCons (eV 6) (aNil)))))) (sNil)
def l1_law_uses : Ss := i2_law_uses
def i3_law_uses : Ss := sIf (fOp cLeA (frz (fOp opAdd (frz (fOp opSub (frz (fCl opLen (aCons (eB 1) (aNil)))) (frz (fCl opLen (aCons (eB 7) (aNil)))))) (frz (fCl opLen (aCons (eB 8) (aNil)))))) (eB 2)) (sFor (fRg1 (aCons (frz (fOp opAdd (frz (fOp opSub (frz (fCl opLen (aCons (eB 1) (aNil)))) (frz (fCl opLen (aCons (eB 7) (aNil)))))) (eC (.int 1)))) (aNil))) (tgN 9) l1_law_uses) (sNil)
def l2_law_uses : Ss := sSeq (sTg (tgT [7, 8]) (eV 5)) (sSeq (i1_law_uses) (i3_law_uses))
def l3_law_uses : Ss := sFor (fTp (fTup (aCons (eC (.bl true)) (aCons (eC (.bl false)) (aNil))))) (tgN 6) l2_law_uses
def b_law_uses : Ss := sSeq (sAsg 3 (fLst (aNil))) (sSeq (sLock 0 (sFor (fEn (eIt 0)) (tgT [4, 5]) l3_law_uses)) (sRetV 3))
def g_law_uses : FSem := runDef [true, true, true] 7 b_law_uses
def i1_law_after : Ss := sIf (fOr (fOp cLtA (eB 3) (eC (.int 0))) (fOr (fOp cGe (eB 3) (frz (fCl opLen (aCons (eB 0) (aNil))))) (fOr (fOp cLtA (eB 4) (eC (.int 0))) (fOp cGt (eB 4) (frz (fCl opLen (aCons (eB 1) (aNil)))))))) (sRet (shm (eC .non))) (sNil)
def i2_law_after : Ss := sIf (fNot (fTru (eB 5))) (sPar 6 7 (aCons (eV 7) (aCons (eV 6) (aNil)))) (sNil)
def i3_law_after : Ss := sIf (fOp cNe (frz (fSl (eB 1) (poS (eB 4)) (poS (frz (fOp opAdd (eB 4) (frz (fCl opLen (aCons (eB 6) (aNil))))))))) (eB 6)) (sRet (shm (eC .non))) (sNil)
def b_law_after : Ss := sSeq (sTg (tgT [3, 4, 5]) (eV 2)) (sSeq (i1_law_after) (sSeq (sTg (tgT [6, 7]) (fOp opIx (eB 0) (eB 3))) (sSeq (i2_law_after) (sSeq (i3_law_after) (sRet (fOp opAdd (frz (fOp opAdd (frz (fSl (eB 1) (poN) (poS (eB 4)))) (eB 7))) (frz (fSl (eB 1) (poS (frz (fOp opAdd (eB 4) (frz (fCl opLen (aCons (eB 6) (aNil))))))) (poN)))))))))
def g_law_after : FSem := runDef [true, true, false] 5 b_law_after
def i1_law_chain : Ss := sIf (fOp cGt (frz (fCl opLen (aCons (eB 7) (aNil)))) (eC (.int 0))) (sSeq (sApp 4 (fOp opIx (eB 7) (frz (fOp opMod (eB 6) (frz (fCl opLen (aCons (eB 7) (aNil)))))))) (sSeq (sAsg 1 (fCall g_law_after (aCons (eB 0) (aCons (eB 1) (aCons (fOp opIx (eB 4) (fNeg (eC (.int 1)))) (aNil)))))) (sApp 5 (eV 1)))) (sNil)
def l1_law_chain : Ss := sSeq (sAsg 7 (fCall g_law_uses (aCons (eB 0) (aCons (eB 1) (aCons (eB 3) (aNil)))))) (i1_law_chain)
def b_law_chain : Ss := sSeq (sAsg 4 (fLst (aNil))) (sSeq (sAsg 5 (fLst (aCons (eV 1) (aNil)))) (sSeq (sLock 2 (sFor (eItA 2) (tgN 6) l1_law_chain)) (sRet (shm (fTup (aCons (eV 4) (aCons (eV 5) (aNil))))))))
def g_law_chain : FSem := runDef [true, false, true, true] 4 b_law_chain
def i1_put : Ss := sIf (fOr (fOp cLtA (eB 1) (eC (.int 0))) (fOr (fOp cGt (eB 1) (frz (fCl opLen (aCons (eB 0) (aNil))))) (fNot (fTru (frz (fM1 opStarts (frz (fSl (eB 0) (poS (eB 1)) (poN))) (eB 2))))))) (fRaise1 x_NoUse (eC (.int 0))) (sNil)
def b_put : Ss := sSeq (i1_put) (sRet (fOp opAdd (frz (fOp opAdd (frz (fSl (eB 0) (poN) (poS (eB 1)))) (eB 3))) (frz (fSl (eB 0) (poS (frz (fOp opAdd (eB 1) (frz (fCl opLen (aCons (eB 2) (aNil))))))) (poN)))))
def g_put : FSem := runDef [true, true, true, true] 0 b_put
def i1_used : Ss := sIf (fNot (fCh cLeA cLtA (eC (.int 0)) (eB 3) (frz (fCl opLen (aCons (eB 0) (aNil)))))) (fRaise1 x_NoUse (eC (.int 0))) (sNil)
def i2_used : Ss := sIf (fTru (eB 5)) (sRet (fCall g_put (aCons (eB 1) (aCons (eB 4) (aCons (eB 6) (aCons (eB 7) (aNil))))))) (sNil)
def b_used : Ss := sSeq (sTg (tgT [3, 4, 5]) (eV 2)) (sSeq (i1_used) (sSeq (sTg (tgT [6, 7]) (fOp opIx (eB 0) (eB 3))) (sSeq (i2_used) (sRet (fCall g_put (aCons (eB 1) (aCons (eB 4) (aCons (eB 7) (aCons (eB 6) (aNil))))))))))
def g_used : FSem := runDef [true, true, false] 5 b_used
def y1_walked : Ss := sAsg 1 (fCall g_used (aCons (eB 0) (aCons (eB 1) (aCons (eV 5) (aNil)))))
def z1_walked : Ss := fRaise1 x_NoUse (eB 4)
def l2_walked : Ss := sSeq (sTryR xs 1 y1_walked z1_walked) (sApp 3 (eV 1))
def b_walked : Ss := sSeq (sAsg 3 (fLst (aCons (eV 1) (aNil)))) (sSeq (sLock 2 (sFor (fEn (eIt 2)) (tgT [4, 5]) l2_walked)) (sRetV 3))
def g_walked : FSem := runDef [true, false, true] 3 b_walked
def b_Chain_init : Ss := sSeq (sFldS 0 fld_pacts (shm (frz (fCl opList (aCons (eB 1) (aNil)))))) (sSeq (sFldS 0 fld_steps (shm (frz (fCl opList (aCons (eB 3) (aNil)))))) (sFldS 0 fld_words (shm (frz (fCall g_walked (aCons (eFB 0 fld_pacts) (aCons (eV 2) (aCons (eFB 0 fld_steps) (aNil)))))))))
def g_Chain_init : FSemI := runDefI 0 [true, false, true] 0 b_Chain_init
def b_Chain_first : Ss := sRet (shm (fOp opIx (fFld fld_words (eV 0)) (eC (.int 0))))
def g_Chain_first : FSem := runDef [false] 0 b_Chain_first
def gs_first : Nat → Option FSem
  | 0 => some g_Chain_first
  | _ => none
def l1_Chain_straight : Ss := sDPutV 1 (eB 4) (eV 3)
def l2_Chain_straight : Ss := sSeq (sApp 2 (fOp opIx (fFld fld_steps (eV 0)) (eB 3))) (sAsg 3 (shm (fDGet 1 (fOp opIx (fFld fld_words (eV 0)) (frz (fOp opAdd (eB 3) (eC (.int 1))))))))
def w2_Chain_straight : Sm Bool := fOp cLtA (eB 3) (frz (fCl opLen (aCons (fFld fld_steps (eV 0)) (aNil))))
def b_Chain_straight : Ss := sSeq (sAsg 1 (fDNew)) (sSeq (sFor (fEn (fIt (fFld fld_words (eV 0)))) (tgT [3, 4]) l1_Chain_straight) (sSeq (sAsg 2 (fLst (aNil))) (sSeq (sAsg 3 (shm (fDGet 1 (frz (fMeth gs_first (eV 0) aNil))))) (sSeq (whL fuel w2_Chain_straight l2_Chain_straight) (sRet (shm (frz (fMake 0 g_Chain_init (aCons (fFld fld_pacts (eV 0)) (aCons (frz (fMeth gs_first (eV 0) aNil)) (aCons (eB 2) (aNil))))))))))))
def g_Chain_straight : FSem := runDef [false] 4 b_Chain_straight
def gs_straight : Nat → Option FSem
  | 0 => some g_Chain_straight
  | _ => none
def b_Chain_steps_told : Ss := sRet (fCl opList (aCons (fFld fld_steps (eV 0)) (aNil)))
def g_Chain_steps_told : FSem := runDef [false] 0 b_Chain_steps_told
def gs_steps_told : Nat → Option FSem
  | 0 => some g_Chain_steps_told
  | _ => none
def i1_law_cell_at : Ss := sIf (fOp cLtA (eB 1) (frz (fCl opLen (aCons (eB 0) (aNil))))) (sRet (shm (fOp opIx (eB 0) (eB 1)))) (sNil)
def b_law_cell_at : Ss := sSeq (i1_law_cell_at) (sRet (shm (eC (.int 0))))
def g_law_cell_at : FSem := runDef [true, true] 0 b_law_cell_at
def l1_law_word : Ss := sSeq (sAsg 4 (fOp opMod (frz (fOp opAdd (frz (fOp opMul (eB 4) (eC (.int 48271)))) (eC (.int 11)))) (eC (.int 2147483647)))) (sAsg 5 (fOp opAdd (eB 5) (fOp opIx (eB 1) (frz (fOp opMod (frz (fOp opDiv (eB 4) (eC (.int 64)))) (frz (fCl opLen (aCons (eB 1) (aNil)))))))))
def b_law_word : Ss := sSeq (sAsg 3 (fOp opMod (eB 0) (frz (fOp opAdd (eB 2) (eC (.int 1)))))) (sSeq (sAsg 4 (fOp opMod (frz (fOp opDiv (eB 0) (frz (fOp opAdd (eB 2) (eC (.int 1)))))) (eC (.int 2147483647)))) (sSeq (sAsg 5 (shm (eC (.str [])))) (sSeq (sFor (fRg1 (aCons (eB 3) (aNil))) (tgN 6) l1_law_word) (sRetV 5))))
def g_law_word : FSem := runDef [true, true, true] 4 b_law_word
def b_law_pact : Ss := sRet (shm (fTup (aCons (frz (fCall g_law_word (aCons (eB 0) (aCons (eB 1) (aCons (eB 2) (aNil)))))) (aCons (frz (fCall g_law_word (aCons (frz (fOp opMod (frz (fOp opMul (eB 0) (eC (.int 69621)))) (eC (.int 2147483629)))) (aCons (eB 1) (aCons (eB 2) (aNil)))))) (aNil)))))
def g_law_pact : FSem := runDef [true, true, true] 0 b_law_pact
def b_law_whole : Ss := sRet (shm (fAndV (fIsi (eB 0) .int) (fNotV (fIsi (eB 0) .bool))))
def g_law_whole : FSem := runDef [true] 0 b_law_whole
def i1_law_steps_are : Ss := sIf (fOr (fNot (fTru (fIsi (eB 0) .list))) (fOp cNe (frz (fCl opLen (aCons (eB 0) (aNil)))) (frz (fCl opLen (aCons (eB 1) (aNil)))))) (sRet (shm (eC (.bl false)))) (sNil)
def i2_law_steps_are : Ss := sIf (fOr (fNot (fTru (fIsi (eB 2) .tuple))) (fOp cNe (eB 2) (eB 3))) (sRet (shm (eC (.bl false)))) (sNil)
def i3_law_steps_are : Ss := sIf (fOr (fNot (fTru (frz (fCall g_law_whole (aCons (fOp opIx (eB 2) (eC (.int 0))) (aNil)))))) (fOr (fNot (fTru (frz (fCall g_law_whole (aCons (fOp opIx (eB 2) (eC (.int 1))) (aNil)))))) (fNot (fTru (fIsi (fOp opIx (eB 2) (eC (.int 2))) .bool))))) (sRet (shm (eC (.bl false)))) (sNil)
def l1_law_steps_are : Ss := sSeq (i2_law_steps_are) (i3_law_steps_are)
def b_law_steps_are : Ss := sSeq (i1_law_steps_are) (sSeq (sLock 1 (sLock 0 (sFor (fZip (eIt 0) (eIt 1)) (tgT [2, 3]) l1_law_steps_are))) (sRet (shm (eC (.bl true)))))
def g_law_steps_are : FSem := runDef [true, true] 2 b_law_steps_are
def i1_law_due : Ss := sIf (fOp cEq (fOp opIx (eB 1) (eB 5)) (fOp opIx (eB 1) (eB 3))) (sAsg 4 (shm (eV 5))) (sNil)
def l1_law_due : Ss := i1_law_due
def l2_law_due : Ss := sSeq (sAsg 4 (shm (eV 3))) (sSeq (sFor (fRg2 (aCons (eB 3) (aCons (frz (fCl opLen (aCons (eB 1) (aNil)))) (aNil)))) (tgN 5) l1_law_due) (sSeq (sApp 2 (fOp opIx (eB 0) (eB 4))) (sAsg 3 (fOp opAdd (eB 4) (eC (.int 1))))))
def w2_law_due : Sm Bool := fOp cNe (fOp opIx (eB 1) (eB 3)) (fOp opIx (eB 1) (fNeg (eC (.int 1))))
def b_law_due : Ss := sSeq (sAsg 2 (fLst (aNil))) (sSeq (sAsg 3 (shm (eC (.int 0)))) (sSeq (whL fuel w2_law_due l2_law_due) (sRetV 2)))
def g_law_due : FSem := runDef [true, true] 4 b_law_due
def b_Chain_words_on : Ss := sRet (fCl opList (aCons (fFld fld_words (eV 0)) (aNil)))
def g_Chain_words_on : FSem := runDef [false] 0 b_Chain_words_on
def gs_words_on : Nat → Option FSem
  | 0 => some g_Chain_words_on
  | _ => none
def b_Chain_last : Ss := sRet (shm (fOp opIx (fFld fld_words (eV 0)) (fNeg (eC (.int 1)))))
def g_Chain_last : FSem := runDef [false] 0 b_Chain_last
def gs_last : Nat → Option FSem
  | 0 => some g_Chain_last
  | _ => none
def i1_law : Ss := sIf (fNot (fTru (frz (fCall g_law_steps_are (aCons (eB 5) (aCons (frz (fCall g_law_due (aCons (eB 9) (aCons (eB 10) (aNil))))) (aNil))))))) (sRet (shm (eC (.bl false)))) (sNil)
def i2_law : Ss := sIf (fOr (fOp cIsN (eB 6) (eC .non)) (fOp cInA (eB 6) (eB 7))) (sRet (shm (eC (.bl false)))) (sNil)
def l1_law : Ss := sSeq (sAsg 6 (fCall g_law_after (aCons (eB 2) (aCons (eB 6) (aCons (eV 8) (aNil)))))) (sSeq (i2_law) (sApp 7 (eV 6)))
def i3_law : Ss := sIf (fOr (fOp cNe (frz (fMeth gs_words_on (eV 4) aNil)) (eB 7)) (fOp cNe (fOp opIx (eB 7) (fNeg (eC (.int 1)))) (fOp opIx (eB 10) (fNeg (eC (.int 1)))))) (sRet (shm (eC (.bl false)))) (sNil)
def i4_law : Ss := sIf (fOr (fOp cNe (frz (fMeth gs_first (eV 4) aNil)) (fOp opIx (eB 7) (eC (.int 0)))) (fOp cNe (frz (fMeth gs_last (eV 4) aNil)) (fOp opIx (eB 7) (fNeg (eC (.int 1)))))) (sRet (shm (eC (.bl false)))) (sNil)
def i5_law : Ss := sIf (fNot (fTru (frz (fCall g_law_steps_are (aCons (frz (fMeth gs_steps_told (frz (fMeth gs_straight (eV 4) aNil)) aNil)) (aCons (eB 5) (aNil))))))) (sRet (shm (eC (.bl false)))) (sNil)
def b_law : Ss := sSeq (sAsg 1 (fCall g_law_letters (aCons (frz (fCall g_law_cell_at (aCons (eB 0) (aCons (eC (.int 0)) (aNil))))) (aCons (eC (.int 2)) (aNil))))) (sSeq (sAsg 2 (fLc (fRg1 (aCons (eC (.int 3)) (aNil))) (tgN 11) (tYs) (frz (fCall g_law_pact (aCons (frz (fCall g_law_cell_at (aCons (eB 0) (aCons (frz (fOp opAdd (eC (.int 2)) (eB 11))) (aNil))))) (aCons (eB 1) (aCons (eC (.int 2)) (aNil)))))) [11])) (sSeq (sTg (tgT [9, 10]) (frz (fCall g_law_chain (aCons (eB 2) (aCons (frz (fCall g_law_word (aCons (frz (fCall g_law_cell_at (aCons (eB 0) (aCons (eC (.int 1)) (aNil))))) (aCons (eB 1) (aCons (eC (.int 3)) (aNil)))))) (aCons (frz (fSl (eB 0) (poS (eC (.int 5))) (poS (eC (.int 63))))) (aCons (eC (.int 4)) (aNil)))))))) (sSeq (sAsg 3 (shm (frz (fMake 0 g_Chain_init (aCons (frz (fCl opList (aCons (eB 2) (aNil)))) (aCons (fOp opIx (eB 10) (eC (.int 0))) (aCons (frz (fCl opList (aCons (eB 9) (aNil)))) (aNil)))))))) (sSeq (sAsg 4 (fMeth gs_straight (eV 3) aNil)) (sSeq (sAsg 5 (fMeth gs_steps_told (eV 4) aNil)) (sSeq (i1_law) (sSeq (sAsg 6 (shm (fOp opIx (eB 10) (eC (.int 0))))) (sSeq (sAsg 7 (fLst (aCons (eV 6) (aNil)))) (sSeq (sLock 5 (sFor (eItA 5) (tgN 8) l1_law)) (sSeq (i3_law) (sSeq (i4_law) (sSeq (i5_law) (sRet (shm (fAndV (frz (fCall g_law_steps_are (aCons (frz (fMeth gs_steps_told (eV 3) aNil)) (aCons (eB 9) (aNil))))) (fOp (vB cEq) (frz (fMeth gs_words_on (eV 3) aNil)) (eB 10)))))))))))))))))
def g_law : FSem := runDef [true] 11 b_law
end
end Lw

set_option Elab.async false
set_option linter.all false
set_option maxRecDepth 100000
set_option maxHeartbeats 4000000
namespace Lw
open PySem L2 Vs
/-! pacts as data -/
def pD (p : List Nat × List Nat) : D := .tup [.str p.1, .str p.2]
def pctD (ps : List (List Nat × List Nat)) : List D := ps.map pD

/-! the block of k21..k28: cells, words, pacts, one step by hand -/
def cell (ns : List Int) (k : Nat) : Int := ns.getD k 0
theorem e_cell (ns : List Int) (k : Nat) : g_law_cell_at [.scr ns, .int (k : Int)] = some (.rt (.sh (.int (cell ns k)))) := by
  unfold g_law_cell_at b_law_cell_at i1_law_cell_at
  by_cases h : k < ns.length
  · have h2 : (k : Int) < (ns.length : Int) := by omega
    simp (disch := first | omega | assumption) only [if_pos, if_neg, decide_eq_true, decide_eq_false, atI_of, cutL_take, cutL_drop, cutL_mid, ge_iff_le, gt_iff_lt, Int.reduceToNat, Int.toNat_zero, Int.toNat_one, Bool.not_true, Bool.not_false, szl, D.key, fDNew, fDGet, sDPutV, fDSet, fRg3, fChV, fSortL, frL, frS, fSortB, sRem, sqAt, eIxI, fItm, fItV, chS, sItC, sItA, sItI, sItS, fTmp, Sl.mut, Sl.th, O.d, sqD, D.atm, sTryR, fSq, aConsF, aNilF, eO, sTgF, setFd, Fd.sl, opJoinRev, fLRev, runDef, runDefI, ioAt, insA, chL, getO, setO, getL, setL, obAt, eFd, eFV, eFB, fFld, fMeth, fMethI, fMake, fCallI, aHere, fIsO, sFldS, setF, Rs.fd, Fd.d, O.d, fMethD, chF, sAppF, fPopF, fPop0, fPop1, sIns, sRetI, sRetNI, fZip, fML, opAny, opAll, opSorted, opMaxL, opMinL, opRfind, opCount, List.map_cons, List.map_nil, cInA, cNinA, inD, itD, fItA, eItA, cLtA, cLeA, fRr1, fRr2, opInt, sPar, fCallD, fRaise0, fRaise1, sTryAs, sTry, aftr, noX, allEq_const, fXf, fXi, fLc, lcL, unE, tYs, Vs.ret, xLock, inis, bof, sNil, sSeq, sAsg, sRet, sRetV, sRetN, sIf, sDrop, sTg, sFor, sBrk, sCnt, sApp, sExt, sOwn, sSetI, opSetI, sLock, unlk, sbnd, bnd, fOp, fCh, fCl, fCall, fLst, fTup, fSl, fIf, fAnd, fOr, fNot, fTru, fAndV, fOrV, fNotV, fNeg, fIsi, fM1, fM2, fRg1, fRg2, fEn, fRev, fSg, fTp, fIt, eIt, eB, eV, eC, frz, shm, aCons, aNil, poN, poS, Rs.d, Rs.sl, vB, List.cons_append, List.nil_append, List.append_nil, List.replicate_zero, List.replicate_succ, List.getElem?_cons_zero, List.getElem?_cons_succ, List.set_cons_zero, List.set_cons_succ, List.length_cons, List.length_nil, opLen, lenD, opList, opAdd, opSub, opMul, opMod, opDiv, opPow, opMin, opMax, opIx, opSl, cmpB, cEq, cNe, cIsN, cNotN, truD, tgN, tgT, setAll, isKd, opFind, opFind3, opStarts, opStarts3, Nat.reduceLT, Nat.reduceAdd, Nat.reduceSub, Nat.reduceLeDiff, Int.reduceLT, Int.reduceLE, Int.reduceNeg, reduceIte, and_self, true_and, and_true, decide_true, decide_false, Int.toNat_natCast, decide_eq_true h2, List.getElem?_eq_getElem h, cell, List.getD_eq_getElem?_getD, Option.getD_some]
  · have h2 : ¬ (k : Int) < (ns.length : Int) := by omega
    simp (disch := first | omega | assumption) only [if_pos, if_neg, decide_eq_true, decide_eq_false, atI_of, cutL_take, cutL_drop, cutL_mid, ge_iff_le, gt_iff_lt, Int.reduceToNat, Int.toNat_zero, Int.toNat_one, Bool.not_true, Bool.not_false, szl, D.key, fDNew, fDGet, sDPutV, fDSet, fRg3, fChV, fSortL, frL, frS, fSortB, sRem, sqAt, eIxI, fItm, fItV, chS, sItC, sItA, sItI, sItS, fTmp, Sl.mut, Sl.th, O.d, sqD, D.atm, sTryR, fSq, aConsF, aNilF, eO, sTgF, setFd, Fd.sl, opJoinRev, fLRev, runDef, runDefI, ioAt, insA, chL, getO, setO, getL, setL, obAt, eFd, eFV, eFB, fFld, fMeth, fMethI, fMake, fCallI, aHere, fIsO, sFldS, setF, Rs.fd, Fd.d, O.d, fMethD, chF, sAppF, fPopF, fPop0, fPop1, sIns, sRetI, sRetNI, fZip, fML, opAny, opAll, opSorted, opMaxL, opMinL, opRfind, opCount, List.map_cons, List.map_nil, cInA, cNinA, inD, itD, fItA, eItA, cLtA, cLeA, fRr1, fRr2, opInt, sPar, fCallD, fRaise0, fRaise1, sTryAs, sTry, aftr, noX, allEq_const, fXf, fXi, fLc, lcL, unE, tYs, Vs.ret, xLock, inis, bof, sNil, sSeq, sAsg, sRet, sRetV, sRetN, sIf, sDrop, sTg, sFor, sBrk, sCnt, sApp, sExt, sOwn, sSetI, opSetI, sLock, unlk, sbnd, bnd, fOp, fCh, fCl, fCall, fLst, fTup, fSl, fIf, fAnd, fOr, fNot, fTru, fAndV, fOrV, fNotV, fNeg, fIsi, fM1, fM2, fRg1, fRg2, fEn, fRev, fSg, fTp, fIt, eIt, eB, eV, eC, frz, shm, aCons, aNil, poN, poS, Rs.d, Rs.sl, vB, List.cons_append, List.nil_append, List.append_nil, List.replicate_zero, List.replicate_succ, List.getElem?_cons_zero, List.getElem?_cons_succ, List.set_cons_zero, List.set_cons_succ, List.length_cons, List.length_nil, opLen, lenD, opList, opAdd, opSub, opMul, opMod, opDiv, opPow, opMin, opMax, opIx, opSl, cmpB, cEq, cNe, cIsN, cNotN, truD, tgN, tgT, setAll, isKd, opFind, opFind3, opStarts, opStarts3, Nat.reduceLT, Nat.reduceAdd, Nat.reduceSub, Nat.reduceLeDiff, Int.reduceLT, Int.reduceLE, Int.reduceNeg, reduceIte, and_self, true_and, and_true, decide_true, decide_false, Int.toNat_natCast, decide_eq_false h2, cell, List.getD_eq_getElem?_getD, List.getElem?_eq_none (show ns.length ≤ k by omega), Option.getD_none]
theorem cell_bits {ns : List Int} (h : ∀ z ∈ ns, Builtin.Int.intBits z ≤ 1048576) (k : Nat) : Builtin.Int.intBits (cell ns k) ≤ 1048576 := by
  unfold cell
  rw [List.getD_eq_getElem?_getD]
  cases e : ns[k]? with
  | none => decide
  | some z => exact h z (List.mem_of_getElem? e)
theorem e_lword (L : List Nat) (c : Int) (m : Nat) (hL : 0 < L.length) (hL2 : L.length ≤ 1000) (hm : m ≤ 1000) : ∃ w, g_law_word [.int c, .str L, .int (m : Int)] = some (.rt (.sh (.str w))) ∧ w.length ≤ m ∧ ∀ x ∈ w, x ∈ L := by
  obtain ⟨Mo, hMo⟩ : ∃ Mo : Int, Mo = (m : Int) := ⟨_, rfl⟩
  rw [← hMo]
  unfold g_law_word b_law_word
  have hp : (0 : Int) < Mo + 1 := by omega
  have p1 := Int.emod_nonneg c (show Mo + 1 ≠ 0 by omega)
  have p2 := Int.emod_lt_of_pos c hp
  obtain ⟨s, hs, hs1⟩ : ∃ s : Nat, c % (Mo + 1) = (s : Int) ∧ s ≤ m := ⟨(c % (Mo + 1)).toNat, by omega, by omega⟩
  have n0 := Int.emod_nonneg (c / (Mo + 1)) (show (2147483647 : Int) ≠ 0 by decide)
  have n1 := Int.emod_lt_of_pos (c / (Mo + 1)) (show (0 : Int) < 2147483647 by decide)
  obtain ⟨e', h1, n, w, s1, rfl, h2, h3, h4, h5⟩ := forL_inv (tg := tgN 6) (body := l1_law_word) (fun i e => ∃ (n : Int) (w : List Nat) (s1 : Sl), e = [.sh (.int c), .sh (.str L), .sh (.int Mo), .sh (.int (s : Int)), .sh (.int n), .sh (.str w), s1] ∧ w.length = i ∧ 0 ≤ n ∧ n < 2147483647 ∧ ∀ x ∈ w, x ∈ L)
    (rng 0 s) [.sh (.int c), .sh (.str L), .sh (.int Mo), .sh (.int (s : Int)), .sh (.int (c / (Mo + 1) % 2147483647)), .sh (.str []), .un] ⟨_, [], .un, rfl, rfl, n0, n1, fun x hx => by cases hx⟩ (fun i d e hd ⟨n, w, s1, he, h2, h3, h4, h5⟩ => by
      obtain ⟨hi, rfl⟩ := rng_get hd
      subst he
      refine ⟨_, rfl, ?_⟩
      unfold l1_law_word
      have b0 : Builtin.Int.intBits 48271 ≤ 100 := by decide
      have b1 : Builtin.Int.intBits n ≤ 32 := PyProof.Rows.intBits_le (show n.natAbs < 2 ^ 32 by omega)
      have b2 : Builtin.Int.intBits n + Builtin.Int.intBits 48271 ≤ 134217728 := by omega
      obtain ⟨N, hN⟩ : ∃ N, N = (n * 48271 + 11) % 2147483647 := ⟨_, rfl⟩
      have N0 : 0 ≤ N ∧ N < 2147483647 := by omega
      have hl0 : (0 : Int) < (L.length : Int) := by omega
      have p1 := Int.emod_nonneg (N / 64) (show (L.length : Int) ≠ 0 by omega)
      have p2 := Int.emod_lt_of_pos (N / 64) hl0
      have hk : (N / 64 % (L.length : Int)).toNat < L.length := by omega
      simp (disch := first | omega | assumption) only [if_pos, if_neg, decide_eq_true, decide_eq_false, atI_of, cutL_take, cutL_drop, cutL_mid, ge_iff_le, gt_iff_lt, Int.reduceToNat, Int.toNat_zero, Int.toNat_one, Bool.not_true, Bool.not_false, szl, D.key, fDNew, fDGet, sDPutV, fDSet, fRg3, fChV, fSortL, frL, frS, fSortB, sRem, sqAt, eIxI, fItm, fItV, chS, sItC, sItA, sItI, sItS, fTmp, Sl.mut, Sl.th, O.d, sqD, D.atm, sTryR, fSq, aConsF, aNilF, eO, sTgF, setFd, Fd.sl, opJoinRev, fLRev, runDef, runDefI, ioAt, insA, chL, getO, setO, getL, setL, obAt, eFd, eFV, eFB, fFld, fMeth, fMethI, fMake, fCallI, aHere, fIsO, sFldS, setF, Rs.fd, Fd.d, O.d, fMethD, chF, sAppF, fPopF, fPop0, fPop1, sIns, sRetI, sRetNI, fZip, fML, opAny, opAll, opSorted, opMaxL, opMinL, opRfind, opCount, List.map_cons, List.map_nil, cInA, cNinA, inD, itD, fItA, eItA, cLtA, cLeA, fRr1, fRr2, opInt, sPar, fCallD, fRaise0, fRaise1, sTryAs, sTry, aftr, noX, allEq_const, fXf, fXi, fLc, lcL, unE, tYs, Vs.ret, xLock, inis, bof, sNil, sSeq, sAsg, sRet, sRetV, sRetN, sIf, sDrop, sTg, sFor, sBrk, sCnt, sApp, sExt, sOwn, sSetI, opSetI, sLock, unlk, sbnd, bnd, fOp, fCh, fCl, fCall, fLst, fTup, fSl, fIf, fAnd, fOr, fNot, fTru, fAndV, fOrV, fNotV, fNeg, fIsi, fM1, fM2, fRg1, fRg2, fEn, fRev, fSg, fTp, fIt, eIt, eB, eV, eC, frz, shm, aCons, aNil, poN, poS, Rs.d, Rs.sl, vB, List.cons_append, List.nil_append, List.append_nil, List.replicate_zero, List.replicate_succ, List.getElem?_cons_zero, List.getElem?_cons_succ, List.set_cons_zero, List.set_cons_succ, List.length_cons, List.length_nil, opLen, lenD, opList, opAdd, opSub, opMul, opMod, opDiv, opPow, opMin, opMax, opIx, opSl, cmpB, cEq, cNe, cIsN, cNotN, truD, tgN, tgT, setAll, isKd, opFind, opFind3, opStarts, opStarts3, Nat.reduceLT, Nat.reduceAdd, Nat.reduceSub, Nat.reduceLeDiff, Int.reduceLT, Int.reduceLE, Int.reduceNeg, reduceIte, and_self, true_and, and_true, decide_true, decide_false, Int.toNat_natCast, ← hN, List.getElem?_eq_getElem hk]
      refine ⟨_, rfl, _, _, _, rfl, ?_, N0.1, N0.2, fun x hx => ?_⟩
      · rw [List.length_append, List.length_cons, List.length_nil]
        omega
      · rcases List.mem_append.mp hx with hx | hx
        · exact h5 x hx
        · rw [List.mem_singleton.mp hx]
          exact List.getElem_mem hk)
  rw [rng_len] at h2
  refine ⟨w, ?_, by omega, h5⟩
  simp (disch := first | omega | assumption) only [if_pos, if_neg, decide_eq_true, decide_eq_false, atI_of, cutL_take, cutL_drop, cutL_mid, ge_iff_le, gt_iff_lt, Int.reduceToNat, Int.toNat_zero, Int.toNat_one, Bool.not_true, Bool.not_false, szl, D.key, fDNew, fDGet, sDPutV, fDSet, fRg3, fChV, fSortL, frL, frS, fSortB, sRem, sqAt, eIxI, fItm, fItV, chS, sItC, sItA, sItI, sItS, fTmp, Sl.mut, Sl.th, O.d, sqD, D.atm, sTryR, fSq, aConsF, aNilF, eO, sTgF, setFd, Fd.sl, opJoinRev, fLRev, runDef, runDefI, ioAt, insA, chL, getO, setO, getL, setL, obAt, eFd, eFV, eFB, fFld, fMeth, fMethI, fMake, fCallI, aHere, fIsO, sFldS, setF, Rs.fd, Fd.d, O.d, fMethD, chF, sAppF, fPopF, fPop0, fPop1, sIns, sRetI, sRetNI, fZip, fML, opAny, opAll, opSorted, opMaxL, opMinL, opRfind, opCount, List.map_cons, List.map_nil, cInA, cNinA, inD, itD, fItA, eItA, cLtA, cLeA, fRr1, fRr2, opInt, sPar, fCallD, fRaise0, fRaise1, sTryAs, sTry, aftr, noX, allEq_const, fXf, fXi, fLc, lcL, unE, tYs, Vs.ret, xLock, inis, bof, sNil, sSeq, sAsg, sRet, sRetV, sRetN, sIf, sDrop, sTg, sFor, sBrk, sCnt, sApp, sExt, sOwn, sSetI, opSetI, sLock, unlk, sbnd, bnd, fOp, fCh, fCl, fCall, fLst, fTup, fSl, fIf, fAnd, fOr, fNot, fTru, fAndV, fOrV, fNotV, fNeg, fIsi, fM1, fM2, fRg1, fRg2, fEn, fRev, fSg, fTp, fIt, eIt, eB, eV, eC, frz, shm, aCons, aNil, poN, poS, Rs.d, Rs.sl, vB, List.cons_append, List.nil_append, List.append_nil, List.replicate_zero, List.replicate_succ, List.getElem?_cons_zero, List.getElem?_cons_succ, List.set_cons_zero, List.set_cons_succ, List.length_cons, List.length_nil, opLen, lenD, opList, opAdd, opSub, opMul, opMod, opDiv, opPow, opMin, opMax, opIx, opSl, cmpB, cEq, cNe, cIsN, cNotN, truD, tgN, tgT, setAll, isKd, opFind, opFind3, opStarts, opStarts3, Nat.reduceLT, Nat.reduceAdd, Nat.reduceSub, Nat.reduceLeDiff, Int.reduceLT, Int.reduceLE, Int.reduceNeg, reduceIte, and_self, true_and, and_true, decide_true, decide_false, Int.toNat_natCast, hs, h1]
theorem e_pact (L : List Nat) (c : Int) (m : Nat) (hc : Builtin.Int.intBits c ≤ 1048576) (hL : 0 < L.length) (hL2 : L.length ≤ 1000) (hm : m ≤ 1000) : ∃ p : List Nat × List Nat, g_law_pact [.int c, .str L, .int (m : Int)] = some (.rt (.sh (pD p))) ∧ (p.1.length ≤ m ∧ ∀ x ∈ p.1, x ∈ L) ∧ p.2.length ≤ m ∧ ∀ x ∈ p.2, x ∈ L := by
  obtain ⟨v, v1, v2⟩ := e_lword L c m hL hL2 hm
  obtain ⟨w, w1, w2⟩ := e_lword L (c * 69621 % 2147483629) m hL hL2 hm
  refine ⟨(v, w), ?_, v2, w2⟩
  have b0 : Builtin.Int.intBits 69621 ≤ 100 := by decide
  have b1 : Builtin.Int.intBits c + Builtin.Int.intBits 69621 ≤ 134217728 := by omega
  unfold g_law_pact b_law_pact
  simp (disch := first | omega | assumption) only [if_pos, if_neg, decide_eq_true, decide_eq_false, atI_of, cutL_take, cutL_drop, cutL_mid, ge_iff_le, gt_iff_lt, Int.reduceToNat, Int.toNat_zero, Int.toNat_one, Bool.not_true, Bool.not_false, szl, D.key, fDNew, fDGet, sDPutV, fDSet, fRg3, fChV, fSortL, frL, frS, fSortB, sRem, sqAt, eIxI, fItm, fItV, chS, sItC, sItA, sItI, sItS, fTmp, Sl.mut, Sl.th, O.d, sqD, D.atm, sTryR, fSq, aConsF, aNilF, eO, sTgF, setFd, Fd.sl, opJoinRev, fLRev, runDef, runDefI, ioAt, insA, chL, getO, setO, getL, setL, obAt, eFd, eFV, eFB, fFld, fMeth, fMethI, fMake, fCallI, aHere, fIsO, sFldS, setF, Rs.fd, Fd.d, O.d, fMethD, chF, sAppF, fPopF, fPop0, fPop1, sIns, sRetI, sRetNI, fZip, fML, opAny, opAll, opSorted, opMaxL, opMinL, opRfind, opCount, List.map_cons, List.map_nil, cInA, cNinA, inD, itD, fItA, eItA, cLtA, cLeA, fRr1, fRr2, opInt, sPar, fCallD, fRaise0, fRaise1, sTryAs, sTry, aftr, noX, allEq_const, fXf, fXi, fLc, lcL, unE, tYs, Vs.ret, xLock, inis, bof, sNil, sSeq, sAsg, sRet, sRetV, sRetN, sIf, sDrop, sTg, sFor, sBrk, sCnt, sApp, sExt, sOwn, sSetI, opSetI, sLock, unlk, sbnd, bnd, fOp, fCh, fCl, fCall, fLst, fTup, fSl, fIf, fAnd, fOr, fNot, fTru, fAndV, fOrV, fNotV, fNeg, fIsi, fM1, fM2, fRg1, fRg2, fEn, fRev, fSg, fTp, fIt, eIt, eB, eV, eC, frz, shm, aCons, aNil, poN, poS, Rs.d, Rs.sl, vB, List.cons_append, List.nil_append, List.append_nil, List.replicate_zero, List.replicate_succ, List.getElem?_cons_zero, List.getElem?_cons_succ, List.set_cons_zero, List.set_cons_succ, List.length_cons, List.length_nil, opLen, lenD, opList, opAdd, opSub, opMul, opMod, opDiv, opPow, opMin, opMax, opIx, opSl, cmpB, cEq, cNe, cIsN, cNotN, truD, tgN, tgT, setAll, isKd, opFind, opFind3, opStarts, opStarts3, Nat.reduceLT, Nat.reduceAdd, Nat.reduceSub, Nat.reduceLeDiff, Int.reduceLT, Int.reduceLE, Int.reduceNeg, reduceIte, and_self, true_and, and_true, decide_true, decide_false, Int.toNat_natCast, v1, w1]
  rfl

/-! steps: uses of pacts, plainly -/
abbrev Pct := List (List Nat × List Nat)
structure Stp where
  n : Nat
  at_ : Nat
  fo : Bool
def oldS (ps : Pct) (s : Stp) : List Nat := if s.fo then (ps.getD s.n ([], [])).1 else (ps.getD s.n ([], [])).2
def newS (ps : Pct) (s : Stp) : List Nat := if s.fo then (ps.getD s.n ([], [])).2 else (ps.getD s.n ([], [])).1
def usedW (ps : Pct) (w : List Nat) (s : Stp) : List Nat := w.take s.at_ ++ newS ps s ++ w.drop (s.at_ + (oldS ps s).length)
/-- the step fits the word -/
structure Fit (ps : Pct) (w : List Nat) (s : Stp) : Prop where
  n : s.n < ps.length
  room : s.at_ + (oldS ps s).length ≤ w.length
  there : (w.drop s.at_).take (oldS ps s).length = oldS ps s
/-- a chain of steps that fit -/
def Vld (ps : Pct) : List Nat → List Stp → Prop
  | _, [] => True
  | w, s :: ss => Fit ps w s ∧ Vld ps (usedW ps w s) ss
def endW (ps : Pct) (w : List Nat) (ss : List Stp) : List Nat := ss.foldl (usedW ps) w
theorem fit_split {ps : Pct} {w : List Nat} {s : Stp} (h : Fit ps w s) : ∃ x y, w = x ++ oldS ps s ++ y ∧ x.length = s.at_ ∧ usedW ps w s = x ++ newS ps s ++ y := by
  refine ⟨w.take s.at_, w.drop (s.at_ + (oldS ps s).length), ?_, by rw [List.length_take]; have := h.room; omega, rfl⟩
  have e1 : w.drop s.at_ = oldS ps s ++ w.drop (s.at_ + (oldS ps s).length) := by
    rw [← List.drop_drop]
    conv => lhs; rw [← List.take_append_drop (oldS ps s).length (w.drop s.at_), h.there]
  rw [List.append_assoc, ← e1, List.take_append_drop]
theorem fit_of {ps : Pct} {s : Stp} {x y : List Nat} (hn : s.n < ps.length) (hx : x.length = s.at_) : Fit ps (x ++ oldS ps s ++ y) s ∧ usedW ps (x ++ oldS ps s ++ y) s = x ++ newS ps s ++ y := by
  refine ⟨⟨hn, by simp only [List.length_append]; omega, ?_⟩, ?_⟩
  · rw [List.append_assoc, ← hx, List.drop_left, List.take_left]
  · unfold usedW
    have e1 : (x ++ oldS ps s ++ y).take s.at_ = x := by rw [List.append_assoc, ← hx, List.take_left]
    have e2 : (x ++ oldS ps s ++ y).drop (s.at_ + (oldS ps s).length) = y := by
      rw [← hx, ← List.length_append, List.drop_left]
    rw [e1, e2]
def mvS (k : Nat) (s : Stp) : Stp := ⟨s.n, s.at_ + k, s.fo⟩
def flS (s : Stp) : Stp := ⟨s.n, s.at_, !s.fo⟩
theorem old_mv (ps : Pct) (k : Nat) (s : Stp) : oldS ps (mvS k s) = oldS ps s ∧ newS ps (mvS k s) = newS ps s := ⟨rfl, rfl⟩
theorem old_fl (ps : Pct) (s : Stp) : oldS ps (flS s) = newS ps s ∧ newS ps (flS s) = oldS ps s := by
  unfold oldS newS flS
  cases s.fo <;> exact ⟨rfl, rfl⟩
theorem vld_mv {ps : Pct} (a b : List Nat) : ∀ (ss : List Stp) (w : List Nat), Vld ps w ss → Vld ps (a ++ w ++ b) (ss.map (mvS a.length)) ∧ endW ps (a ++ w ++ b) (ss.map (mvS a.length)) = a ++ endW ps w ss ++ b
  | [], w, _ => ⟨trivial, rfl⟩
  | s :: ss, w, ⟨h1, h2⟩ => by
    obtain ⟨x, y, e1, e2, e3⟩ := fit_split h1
    have hf := fit_of (ps := ps) (s := mvS a.length s) (x := a ++ x) (y := y ++ b) h1.n (by rw [List.length_append, e2]; show _ = s.at_ + a.length; omega)
    obtain ⟨f1, f2⟩ := hf
    have ew : a ++ x ++ oldS ps (mvS a.length s) ++ (y ++ b) = a ++ w ++ b := by
      rw [(old_mv ps a.length s).1, e1]
      simp only [List.append_assoc]
    have eu : a ++ x ++ newS ps (mvS a.length s) ++ (y ++ b) = a ++ usedW ps w s ++ b := by
      rw [(old_mv ps a.length s).2, e3]
      simp only [List.append_assoc]
    rw [ew] at f1 f2
    rw [eu] at f2
    obtain ⟨g1, g2⟩ := vld_mv a b ss (usedW ps w s) h2
    refine ⟨⟨f1, by rw [f2]; exact g1⟩, ?_⟩
    show endW ps (usedW ps (a ++ w ++ b) (mvS a.length s)) (ss.map (mvS a.length)) = _
    rw [f2, g2]
    rfl
theorem vld_app {ps : Pct} : ∀ (ss tt : List Stp) (w : List Nat), Vld ps w ss → Vld ps (endW ps w ss) tt → Vld ps w (ss ++ tt)
  | [], _, _, _, h => h
  | s :: ss, tt, w, ⟨h1, h2⟩, h => ⟨h1, vld_app ss tt _ h2 h⟩
theorem end_app (ps : Pct) (ss tt : List Stp) (w : List Nat) : endW ps w (ss ++ tt) = endW ps (endW ps w ss) tt := by
  unfold endW
  rw [List.foldl_append]
def backL (ss : List Stp) : List Stp := (ss.map flS).reverse
theorem vld_back {ps : Pct} : ∀ (ss : List Stp) (w : List Nat), Vld ps w ss → Vld ps (endW ps w ss) (backL ss) ∧ endW ps (endW ps w ss) (backL ss) = w
  | [], w, _ => ⟨trivial, rfl⟩
  | s :: ss, w, ⟨h1, h2⟩ => by
    obtain ⟨g1, g2⟩ := vld_back ss _ h2
    obtain ⟨x, y, e1, e2, e3⟩ := fit_split h1
    obtain ⟨f1, f2⟩ := fit_of (ps := ps) (s := flS s) (x := x) (y := y) h1.n e2
    rw [(old_fl ps s).1, ← e3] at f1 f2
    rw [(old_fl ps s).2, ← e1] at f2
    have eb : backL (s :: ss) = backL ss ++ [flS s] := by
      unfold backL
      rw [List.map_cons, List.reverse_cons]
    rw [eb]
    refine ⟨vld_app _ _ _ g1 ?_, ?_⟩
    · show Vld ps (endW ps (endW ps (usedW ps w s) ss) (backL ss)) [flS s]
      rw [g2]
      exact ⟨f1, trivial⟩
    · rw [end_app]
      show endW ps (endW ps (endW ps (usedW ps w s) ss) (backL ss)) [flS s] = w
      rw [g2]
      exact f2
theorem vld_n {ps : Pct} : ∀ (ss : List Stp) (w : List Nat), Vld ps w ss → ∀ s ∈ ss, s.n < ps.length
  | s :: ss, w, ⟨h1, h2⟩, t, ht => by
    rcases List.mem_cons.mp ht with rfl | ht
    · exact h1.n
    · exact vld_n ss _ h2 t ht
/-- the steps of a use of an entry: forth, or back -/
def subS (es : List (List Stp)) (u : Stp) : List Stp := ((if u.fo then es.getD u.n [] else backL (es.getD u.n [])).map (mvS u.at_))
/-- uses of entries as steps by the pacts -/
theorem vld_sub {ps rs : Pct} {es : List (List Stp)} (hl : es.length = rs.length) (he : ∀ k, k < rs.length → Vld ps (rs.getD k ([], [])).1 (es.getD k []) ∧ endW ps (rs.getD k ([], [])).1 (es.getD k []) = (rs.getD k ([], [])).2) : ∀ (us : List Stp) (w : List Nat), Vld rs w us → Vld ps w (us.flatMap (subS es)) ∧ endW ps w (us.flatMap (subS es)) = endW rs w us
  | [], w, _ => ⟨trivial, rfl⟩
  | u :: us, w, ⟨h1, h2⟩ => by
    obtain ⟨x, y, e1, e2, e3⟩ := fit_split h1
    obtain ⟨v1, v2⟩ := he u.n h1.n
    have step : Vld ps w (subS es u) ∧ endW ps w (subS es u) = usedW rs w u := by
      unfold subS
      cases hf : u.fo with
      | true =>
        have o : oldS rs u = (rs.getD u.n ([], [])).1 := by unfold oldS; rw [hf]; rfl
        have nw : newS rs u = (rs.getD u.n ([], [])).2 := by unfold newS; rw [hf]; rfl
        obtain ⟨g1, g2⟩ := vld_mv x y (es.getD u.n []) _ v1
        rw [e2, ← o, ← e1] at g1 g2
        refine ⟨g1, ?_⟩
        rw [e3]
        refine g2.trans ?_
        rw [o, v2, nw]
      | false =>
        have o : oldS rs u = (rs.getD u.n ([], [])).2 := by unfold oldS; rw [hf]; rfl
        have nw : newS rs u = (rs.getD u.n ([], [])).1 := by unfold newS; rw [hf]; rfl
        obtain ⟨b1, b2⟩ := vld_back _ _ v1
        rw [v2] at b1 b2
        obtain ⟨g1, g2⟩ := vld_mv x y (backL (es.getD u.n [])) _ b1
        rw [e2, ← o, ← e1] at g1 g2
        refine ⟨g1, ?_⟩
        rw [e3]
        refine g2.trans ?_
        rw [o, b2, nw]
    obtain ⟨g1, g2⟩ := vld_sub hl he us _ h2
    rw [List.flatMap_cons]
    refine ⟨vld_app _ _ _ step.1 (by rw [step.2]; exact g1), ?_⟩
    rw [end_app, step.2, g2]
    rfl

/-! steps: as data -/
def stD (s : Stp) : D := .tup [.int (s.n : Int), .int (s.at_ : Int), .bl s.fo]
def stL (ss : List Stp) : List D := ss.map stD
theorem stL_len (ss : List Stp) : (stL ss).length = ss.length := List.length_map ..
theorem pct_len (ps : Pct) : (pctD ps).length = ps.length := List.length_map ..
theorem pct_at {ps : Pct} {k : Nat} (h : k < ps.length) : (pctD ps)[k]? = some (.tup [.str (ps.getD k ([], [])).1, .str (ps.getD k ([], [])).2]) := by
  unfold pctD
  rw [List.getElem?_map, List.getD_eq_getElem?_getD, List.getElem?_eq_getElem h]
  rfl
def SzP (ps : Pct) : Prop := ps.length ≤ 1000 ∧ ∀ p ∈ ps, p.1.length ≤ 1000 ∧ p.2.length ≤ 1000
theorem szP_at {ps : Pct} (h : SzP ps) {k : Nat} (hk : k < ps.length) : (ps.getD k ([], [])).1.length ≤ 1000 ∧ (ps.getD k ([], [])).2.length ≤ 1000 := by
  refine h.2 _ ?_
  rw [List.getD_eq_getElem?_getD, List.getElem?_eq_getElem hk]
  exact List.getElem_mem hk

/-! startswith -/
theorem starts_eq (a b : List Nat) : Txt.startswith (S a) (S b) = (decide (b.length ≤ a.length) && (a.take b.length == b)) := by
  unfold Txt.startswith
  rw [PySem.StrLaws.subAt_eq, S_len, S_len, S_cps, S_cps]
  simp

/-! one step by hand -/
theorem e_after {ps : Pct} {w : List Nat} {s : Stp} (hs : SzP ps) (hw : w.length ≤ 1000) (h : Fit ps w s) : g_law_after [.lst (pctD ps), .str w, stD s] = some (.rt (.sh (.str (usedW ps w s)))) := by
  unfold g_law_after b_law_after
  obtain ⟨z1, z2⟩ := szP_at hs h.n
  have hn := h.n
  have ha := pct_at hn
  have hpl : (pctD ps).length ≤ 1000 := by rw [pct_len]; exact hs.1
  have hr := h.room
  have ht := h.there
  obtain ⟨o, ho⟩ : ∃ o, o = oldS ps s := ⟨_, rfl⟩
  obtain ⟨q, hq⟩ : ∃ q, q = newS ps s := ⟨_, rfl⟩
  have eu : usedW ps w s = w.take s.at_ ++ q ++ w.drop (s.at_ + o.length) := by unfold usedW; rw [← ho, ← hq]
  rw [← ho] at hr ht
  rw [eu]
  have g1 : ¬ (s.n : Int) < 0 := by omega
  have g2 : ¬ (s.n : Int) ≥ ((pctD ps).length : Int) := by rw [pct_len]; omega
  have g3 : ¬ (s.at_ : Int) < 0 := by omega
  have g4 : ¬ (s.at_ : Int) > (w.length : Int) := by omega
  have c : cutL w (some (s.at_ : Int)) (some ((s.at_ : Int) + (o.length : Int))) = o := by
    rw [cutL_mid w (by omega) (by omega)]
    have e1 : ((s.at_ : Int) + (o.length : Int)).toNat - (s.at_ : Int).toNat = o.length := by omega
    rw [e1, Int.toNat_natCast]
    exact ht
  have c1 : cutL w none (some (s.at_ : Int)) = w.take s.at_ := by rw [cutL_take w (by omega), Int.toNat_natCast]
  have c2 : cutL w (some ((s.at_ : Int) + (o.length : Int))) none = w.drop (s.at_ + o.length) := by
    rw [cutL_drop w (by omega)]
    congr 1
  have hql : q.length ≤ 1000 := by
    rw [hq]
    unfold newS
    split
    · exact z2
    · exact z1
  have l1 : (w.take s.at_).length ≤ 1000 := by rw [List.length_take]; omega
  have l2 : (w.drop (s.at_ + o.length)).length ≤ 1000 := by rw [List.length_drop]; omega
  have l3 : (w.take s.at_ ++ q).length ≤ 2000 := by rw [List.length_append]; omega
  unfold i1_law_after i2_law_after i3_law_after stD
  cases hf : s.fo with
  | true =>
    have ho' : (ps.getD s.n ([], [])).1 = o := by rw [ho]; unfold oldS; rw [hf]; rfl
    have hq' : (ps.getD s.n ([], [])).2 = q := by rw [hq]; unfold newS; rw [hf]; rfl
    rw [ho', hq'] at ha
    simp (disch := first | omega | assumption) only [if_pos, if_neg, decide_eq_true, decide_eq_false, atI_of, cutL_take, cutL_drop, cutL_mid, ge_iff_le, gt_iff_lt, Int.reduceToNat, Int.toNat_zero, Int.toNat_one, Bool.not_true, Bool.not_false, szl, D.key, fDNew, fDGet, sDPutV, fDSet, fRg3, fChV, fSortL, frL, frS, fSortB, sRem, sqAt, eIxI, fItm, fItV, chS, sItC, sItA, sItI, sItS, fTmp, Sl.mut, Sl.th, O.d, sqD, D.atm, sTryR, fSq, aConsF, aNilF, eO, sTgF, setFd, Fd.sl, opJoinRev, fLRev, runDef, runDefI, ioAt, insA, chL, getO, setO, getL, setL, obAt, eFd, eFV, eFB, fFld, fMeth, fMethI, fMake, fCallI, aHere, fIsO, sFldS, setF, Rs.fd, Fd.d, O.d, fMethD, chF, sAppF, fPopF, fPop0, fPop1, sIns, sRetI, sRetNI, fZip, fML, opAny, opAll, opSorted, opMaxL, opMinL, opRfind, opCount, List.map_cons, List.map_nil, cInA, cNinA, inD, itD, fItA, eItA, cLtA, cLeA, fRr1, fRr2, opInt, sPar, fCallD, fRaise0, fRaise1, sTryAs, sTry, aftr, noX, allEq_const, fXf, fXi, fLc, lcL, unE, tYs, Vs.ret, xLock, inis, bof, sNil, sSeq, sAsg, sRet, sRetV, sRetN, sIf, sDrop, sTg, sFor, sBrk, sCnt, sApp, sExt, sOwn, sSetI, opSetI, sLock, unlk, sbnd, bnd, fOp, fCh, fCl, fCall, fLst, fTup, fSl, fIf, fAnd, fOr, fNot, fTru, fAndV, fOrV, fNotV, fNeg, fIsi, fM1, fM2, fRg1, fRg2, fEn, fRev, fSg, fTp, fIt, eIt, eB, eV, eC, frz, shm, aCons, aNil, poN, poS, Rs.d, Rs.sl, vB, List.cons_append, List.nil_append, List.append_nil, List.replicate_zero, List.replicate_succ, List.getElem?_cons_zero, List.getElem?_cons_succ, List.set_cons_zero, List.set_cons_succ, List.length_cons, List.length_nil, opLen, lenD, opList, opAdd, opSub, opMul, opMod, opDiv, opPow, opMin, opMax, opIx, opSl, cmpB, cEq, cNe, cIsN, cNotN, truD, tgN, tgT, setAll, isKd, opFind, opFind3, opStarts, opStarts3, Nat.reduceLT, Nat.reduceAdd, Nat.reduceSub, Nat.reduceLeDiff, Int.reduceLT, Int.reduceLE, Int.reduceNeg, reduceIte, and_self, true_and, and_true, decide_true, decide_false, Int.toNat_natCast, decide_eq_false g1, decide_eq_false g2, decide_eq_false g3, decide_eq_false g4, ha, c, c1, c2]
  | false =>
    have ho' : (ps.getD s.n ([], [])).2 = o := by rw [ho]; unfold oldS; rw [hf]; rfl
    have hq' : (ps.getD s.n ([], [])).1 = q := by rw [hq]; unfold newS; rw [hf]; rfl
    rw [ho', hq'] at ha
    simp (disch := first | omega | assumption) only [if_pos, if_neg, decide_eq_true, decide_eq_false, atI_of, cutL_take, cutL_drop, cutL_mid, ge_iff_le, gt_iff_lt, Int.reduceToNat, Int.toNat_zero, Int.toNat_one, Bool.not_true, Bool.not_false, szl, D.key, fDNew, fDGet, sDPutV, fDSet, fRg3, fChV, fSortL, frL, frS, fSortB, sRem, sqAt, eIxI, fItm, fItV, chS, sItC, sItA, sItI, sItS, fTmp, Sl.mut, Sl.th, O.d, sqD, D.atm, sTryR, fSq, aConsF, aNilF, eO, sTgF, setFd, Fd.sl, opJoinRev, fLRev, runDef, runDefI, ioAt, insA, chL, getO, setO, getL, setL, obAt, eFd, eFV, eFB, fFld, fMeth, fMethI, fMake, fCallI, aHere, fIsO, sFldS, setF, Rs.fd, Fd.d, O.d, fMethD, chF, sAppF, fPopF, fPop0, fPop1, sIns, sRetI, sRetNI, fZip, fML, opAny, opAll, opSorted, opMaxL, opMinL, opRfind, opCount, List.map_cons, List.map_nil, cInA, cNinA, inD, itD, fItA, eItA, cLtA, cLeA, fRr1, fRr2, opInt, sPar, fCallD, fRaise0, fRaise1, sTryAs, sTry, aftr, noX, allEq_const, fXf, fXi, fLc, lcL, unE, tYs, Vs.ret, xLock, inis, bof, sNil, sSeq, sAsg, sRet, sRetV, sRetN, sIf, sDrop, sTg, sFor, sBrk, sCnt, sApp, sExt, sOwn, sSetI, opSetI, sLock, unlk, sbnd, bnd, fOp, fCh, fCl, fCall, fLst, fTup, fSl, fIf, fAnd, fOr, fNot, fTru, fAndV, fOrV, fNotV, fNeg, fIsi, fM1, fM2, fRg1, fRg2, fEn, fRev, fSg, fTp, fIt, eIt, eB, eV, eC, frz, shm, aCons, aNil, poN, poS, Rs.d, Rs.sl, vB, List.cons_append, List.nil_append, List.append_nil, List.replicate_zero, List.replicate_succ, List.getElem?_cons_zero, List.getElem?_cons_succ, List.set_cons_zero, List.set_cons_succ, List.length_cons, List.length_nil, opLen, lenD, opList, opAdd, opSub, opMul, opMod, opDiv, opPow, opMin, opMax, opIx, opSl, cmpB, cEq, cNe, cIsN, cNotN, truD, tgN, tgT, setAll, isKd, opFind, opFind3, opStarts, opStarts3, Nat.reduceLT, Nat.reduceAdd, Nat.reduceSub, Nat.reduceLeDiff, Int.reduceLT, Int.reduceLE, Int.reduceNeg, reduceIte, and_self, true_and, and_true, decide_true, decide_false, Int.toNat_natCast, decide_eq_false g1, decide_eq_false g2, decide_eq_false g3, decide_eq_false g4, ha, c, c1, c2]

/-! how a word grows -/
theorem used_len {ps : Pct} {B : Nat} (hB : ∀ p ∈ ps, p.1.length ≤ B ∧ p.2.length ≤ B) {w : List Nat} {s : Stp} (h : Fit ps w s) : (usedW ps w s).length ≤ w.length + B := by
  have hm : ps.getD s.n ([], []) ∈ ps := by
    rw [List.getD_eq_getElem?_getD, List.getElem?_eq_getElem h.n]
    exact List.getElem_mem h.n
  obtain ⟨b1, b2⟩ := hB _ hm
  have hn : (newS ps s).length ≤ B := by
    unfold newS
    split
    · exact b2
    · exact b1
  obtain ⟨x, y, e1, _, e3⟩ := fit_split h
  rw [e3]
  have := congrArg List.length e1
  simp only [List.length_append] at this ⊢
  omega

/-! the program's put, used, walked: where the steps fit -/
theorem e_put {w o q : List Nat} {a : Nat} (hw : w.length ≤ 1000) (hq : q.length ≤ 1000) (ha : a + o.length ≤ w.length) (ht : (w.drop a).take o.length = o) : g_put [.str w, .int (a : Int), .str o, .str q] = some (.rt (.sh (.str (w.take a ++ q ++ w.drop (a + o.length))))) := by
  unfold g_put b_put
  have c0 : cutL w (some (a : Int)) none = w.drop a := by rw [cutL_drop w (by omega), Int.toNat_natCast]
  have c1 : cutL w none (some (a : Int)) = w.take a := by rw [cutL_take w (by omega), Int.toNat_natCast]
  have c2 : cutL w (some ((a : Int) + (o.length : Int))) none = w.drop (a + o.length) := by
    rw [cutL_drop w (by omega)]
    congr 1
  have hst : Txt.startswith (S (w.drop a)) (S o) = true := by
    rw [starts_eq, ht, Bool.and_eq_true]
    exact ⟨decide_eq_true (by rw [List.length_drop]; omega), beq_self_eq_true o⟩
  have l1 : (w.take a).length ≤ 1000 := by rw [List.length_take]; omega
  have l2 : (w.drop (a + o.length)).length ≤ 1000 := by rw [List.length_drop]; omega
  have l3 : (w.take a ++ q).length ≤ 2000 := by rw [List.length_append]; omega
  have i1 : i1_put [.sh (.str w), .sh (.int (a : Int)), .sh (.str o), .sh (.str q)] = some (.nx [.sh (.str w), .sh (.int (a : Int)), .sh (.str o), .sh (.str q)]) := by
    unfold i1_put
    have g1 : ¬ (a : Int) < 0 := by omega
    have g2 : ¬ (a : Int) > (w.length : Int) := by omega
    simp (disch := first | omega | assumption) only [if_pos, if_neg, decide_eq_true, decide_eq_false, atI_of, cutL_take, cutL_drop, cutL_mid, ge_iff_le, gt_iff_lt, Int.reduceToNat, Int.toNat_zero, Int.toNat_one, Bool.not_true, Bool.not_false, szl, D.key, fDNew, fDGet, sDPutV, fDSet, fRg3, fChV, fSortL, frL, frS, fSortB, sRem, sqAt, eIxI, fItm, fItV, chS, sItC, sItA, sItI, sItS, fTmp, Sl.mut, Sl.th, O.d, sqD, D.atm, sTryR, fSq, aConsF, aNilF, eO, sTgF, setFd, Fd.sl, opJoinRev, fLRev, runDef, runDefI, ioAt, insA, chL, getO, setO, getL, setL, obAt, eFd, eFV, eFB, fFld, fMeth, fMethI, fMake, fCallI, aHere, fIsO, sFldS, setF, Rs.fd, Fd.d, O.d, fMethD, chF, sAppF, fPopF, fPop0, fPop1, sIns, sRetI, sRetNI, fZip, fML, opAny, opAll, opSorted, opMaxL, opMinL, opRfind, opCount, List.map_cons, List.map_nil, cInA, cNinA, inD, itD, fItA, eItA, cLtA, cLeA, fRr1, fRr2, opInt, sPar, fCallD, fRaise0, fRaise1, sTryAs, sTry, aftr, noX, allEq_const, fXf, fXi, fLc, lcL, unE, tYs, Vs.ret, xLock, inis, bof, sNil, sSeq, sAsg, sRet, sRetV, sRetN, sIf, sDrop, sTg, sFor, sBrk, sCnt, sApp, sExt, sOwn, sSetI, opSetI, sLock, unlk, sbnd, bnd, fOp, fCh, fCl, fCall, fLst, fTup, fSl, fIf, fAnd, fOr, fNot, fTru, fAndV, fOrV, fNotV, fNeg, fIsi, fM1, fM2, fRg1, fRg2, fEn, fRev, fSg, fTp, fIt, eIt, eB, eV, eC, frz, shm, aCons, aNil, poN, poS, Rs.d, Rs.sl, vB, List.cons_append, List.nil_append, List.append_nil, List.replicate_zero, List.replicate_succ, List.getElem?_cons_zero, List.getElem?_cons_succ, List.set_cons_zero, List.set_cons_succ, List.length_cons, List.length_nil, opLen, lenD, opList, opAdd, opSub, opMul, opMod, opDiv, opPow, opMin, opMax, opIx, opSl, cmpB, cEq, cNe, cIsN, cNotN, truD, tgN, tgT, setAll, isKd, opFind, opFind3, opStarts, opStarts3, Nat.reduceLT, Nat.reduceAdd, Nat.reduceSub, Nat.reduceLeDiff, Int.reduceLT, Int.reduceLE, Int.reduceNeg, reduceIte, and_self, true_and, and_true, decide_true, decide_false, Int.toNat_natCast, decide_eq_false g1, decide_eq_false g2, c0, hst]
  simp (disch := first | omega | assumption) only [if_pos, if_neg, decide_eq_true, decide_eq_false, atI_of, cutL_take, cutL_drop, cutL_mid, ge_iff_le, gt_iff_lt, Int.reduceToNat, Int.toNat_zero, Int.toNat_one, Bool.not_true, Bool.not_false, szl, D.key, fDNew, fDGet, sDPutV, fDSet, fRg3, fChV, fSortL, frL, frS, fSortB, sRem, sqAt, eIxI, fItm, fItV, chS, sItC, sItA, sItI, sItS, fTmp, Sl.mut, Sl.th, O.d, sqD, D.atm, sTryR, fSq, aConsF, aNilF, eO, sTgF, setFd, Fd.sl, opJoinRev, fLRev, runDef, runDefI, ioAt, insA, chL, getO, setO, getL, setL, obAt, eFd, eFV, eFB, fFld, fMeth, fMethI, fMake, fCallI, aHere, fIsO, sFldS, setF, Rs.fd, Fd.d, O.d, fMethD, chF, sAppF, fPopF, fPop0, fPop1, sIns, sRetI, sRetNI, fZip, fML, opAny, opAll, opSorted, opMaxL, opMinL, opRfind, opCount, List.map_cons, List.map_nil, cInA, cNinA, inD, itD, fItA, eItA, cLtA, cLeA, fRr1, fRr2, opInt, sPar, fCallD, fRaise0, fRaise1, sTryAs, sTry, aftr, noX, allEq_const, fXf, fXi, fLc, lcL, unE, tYs, Vs.ret, xLock, inis, bof, sNil, sSeq, sAsg, sRet, sRetV, sRetN, sIf, sDrop, sTg, sFor, sBrk, sCnt, sApp, sExt, sOwn, sSetI, opSetI, sLock, unlk, sbnd, bnd, fOp, fCh, fCl, fCall, fLst, fTup, fSl, fIf, fAnd, fOr, fNot, fTru, fAndV, fOrV, fNotV, fNeg, fIsi, fM1, fM2, fRg1, fRg2, fEn, fRev, fSg, fTp, fIt, eIt, eB, eV, eC, frz, shm, aCons, aNil, poN, poS, Rs.d, Rs.sl, vB, List.cons_append, List.nil_append, List.append_nil, List.replicate_zero, List.replicate_succ, List.getElem?_cons_zero, List.getElem?_cons_succ, List.set_cons_zero, List.set_cons_succ, List.length_cons, List.length_nil, opLen, lenD, opList, opAdd, opSub, opMul, opMod, opDiv, opPow, opMin, opMax, opIx, opSl, cmpB, cEq, cNe, cIsN, cNotN, truD, tgN, tgT, setAll, isKd, opFind, opFind3, opStarts, opStarts3, Nat.reduceLT, Nat.reduceAdd, Nat.reduceSub, Nat.reduceLeDiff, Int.reduceLT, Int.reduceLE, Int.reduceNeg, reduceIte, and_self, true_and, and_true, decide_true, decide_false, Int.toNat_natCast, i1, c1, c2]
theorem e_pused {ps : Pct} {w : List Nat} {s : Stp} (hs : SzP ps) (hw : w.length ≤ 1000) (h : Fit ps w s) : g_used [.lst (pctD ps), .str w, stD s] = some (.rt (.sh (.str (usedW ps w s)))) := by
  unfold g_used b_used
  obtain ⟨z1, z2⟩ := szP_at hs h.n
  have hn := h.n
  have ha := pct_at hn
  have hpl : (pctD ps).length ≤ 1000 := by rw [pct_len]; exact hs.1
  have hr := h.room
  have ht := h.there
  have i1 : ∀ a b c d e f, i1_used [a, b, c, .sh (.int (s.n : Int)), d, e, f, .un] = i1_used [a, b, c, .sh (.int (s.n : Int)), d, e, f, .un] := fun _ _ _ _ _ _ => rfl
  have g1 : (0 : Int) ≤ (s.n : Int) := by omega
  have g2 : (s.n : Int) < ((pctD ps).length : Int) := by rw [pct_len]; omega
  unfold i1_used i2_used stD
  unfold usedW
  unfold oldS newS at *
  cases hf : s.fo with
  | true =>
    rw [hf] at hr ht
    simp only [if_true] at hr ht ⊢
    have p := e_put (q := (ps.getD s.n ([], [])).2) hw z2 hr ht
    simp (disch := first | omega | assumption) only [if_pos, if_neg, decide_eq_true, decide_eq_false, atI_of, cutL_take, cutL_drop, cutL_mid, ge_iff_le, gt_iff_lt, Int.reduceToNat, Int.toNat_zero, Int.toNat_one, Bool.not_true, Bool.not_false, szl, D.key, fDNew, fDGet, sDPutV, fDSet, fRg3, fChV, fSortL, frL, frS, fSortB, sRem, sqAt, eIxI, fItm, fItV, chS, sItC, sItA, sItI, sItS, fTmp, Sl.mut, Sl.th, O.d, sqD, D.atm, sTryR, fSq, aConsF, aNilF, eO, sTgF, setFd, Fd.sl, opJoinRev, fLRev, runDef, runDefI, ioAt, insA, chL, getO, setO, getL, setL, obAt, eFd, eFV, eFB, fFld, fMeth, fMethI, fMake, fCallI, aHere, fIsO, sFldS, setF, Rs.fd, Fd.d, O.d, fMethD, chF, sAppF, fPopF, fPop0, fPop1, sIns, sRetI, sRetNI, fZip, fML, opAny, opAll, opSorted, opMaxL, opMinL, opRfind, opCount, List.map_cons, List.map_nil, cInA, cNinA, inD, itD, fItA, eItA, cLtA, cLeA, fRr1, fRr2, opInt, sPar, fCallD, fRaise0, fRaise1, sTryAs, sTry, aftr, noX, allEq_const, fXf, fXi, fLc, lcL, unE, tYs, Vs.ret, xLock, inis, bof, sNil, sSeq, sAsg, sRet, sRetV, sRetN, sIf, sDrop, sTg, sFor, sBrk, sCnt, sApp, sExt, sOwn, sSetI, opSetI, sLock, unlk, sbnd, bnd, fOp, fCh, fCl, fCall, fLst, fTup, fSl, fIf, fAnd, fOr, fNot, fTru, fAndV, fOrV, fNotV, fNeg, fIsi, fM1, fM2, fRg1, fRg2, fEn, fRev, fSg, fTp, fIt, eIt, eB, eV, eC, frz, shm, aCons, aNil, poN, poS, Rs.d, Rs.sl, vB, List.cons_append, List.nil_append, List.append_nil, List.replicate_zero, List.replicate_succ, List.getElem?_cons_zero, List.getElem?_cons_succ, List.set_cons_zero, List.set_cons_succ, List.length_cons, List.length_nil, opLen, lenD, opList, opAdd, opSub, opMul, opMod, opDiv, opPow, opMin, opMax, opIx, opSl, cmpB, cEq, cNe, cIsN, cNotN, truD, tgN, tgT, setAll, isKd, opFind, opFind3, opStarts, opStarts3, Nat.reduceLT, Nat.reduceAdd, Nat.reduceSub, Nat.reduceLeDiff, Int.reduceLT, Int.reduceLE, Int.reduceNeg, reduceIte, and_self, true_and, and_true, decide_true, decide_false, Int.toNat_natCast, decide_eq_true g1, decide_eq_true g2, ha, p]
  | false =>
    rw [hf] at hr ht
    simp only [Bool.false_eq_true, if_false] at hr ht ⊢
    have p := e_put (q := (ps.getD s.n ([], [])).1) hw z1 hr ht
    simp (disch := first | omega | assumption) only [if_pos, if_neg, decide_eq_true, decide_eq_false, atI_of, cutL_take, cutL_drop, cutL_mid, ge_iff_le, gt_iff_lt, Int.reduceToNat, Int.toNat_zero, Int.toNat_one, Bool.not_true, Bool.not_false, szl, D.key, fDNew, fDGet, sDPutV, fDSet, fRg3, fChV, fSortL, frL, frS, fSortB, sRem, sqAt, eIxI, fItm, fItV, chS, sItC, sItA, sItI, sItS, fTmp, Sl.mut, Sl.th, O.d, sqD, D.atm, sTryR, fSq, aConsF, aNilF, eO, sTgF, setFd, Fd.sl, opJoinRev, fLRev, runDef, runDefI, ioAt, insA, chL, getO, setO, getL, setL, obAt, eFd, eFV, eFB, fFld, fMeth, fMethI, fMake, fCallI, aHere, fIsO, sFldS, setF, Rs.fd, Fd.d, O.d, fMethD, chF, sAppF, fPopF, fPop0, fPop1, sIns, sRetI, sRetNI, fZip, fML, opAny, opAll, opSorted, opMaxL, opMinL, opRfind, opCount, List.map_cons, List.map_nil, cInA, cNinA, inD, itD, fItA, eItA, cLtA, cLeA, fRr1, fRr2, opInt, sPar, fCallD, fRaise0, fRaise1, sTryAs, sTry, aftr, noX, allEq_const, fXf, fXi, fLc, lcL, unE, tYs, Vs.ret, xLock, inis, bof, sNil, sSeq, sAsg, sRet, sRetV, sRetN, sIf, sDrop, sTg, sFor, sBrk, sCnt, sApp, sExt, sOwn, sSetI, opSetI, sLock, unlk, sbnd, bnd, fOp, fCh, fCl, fCall, fLst, fTup, fSl, fIf, fAnd, fOr, fNot, fTru, fAndV, fOrV, fNotV, fNeg, fIsi, fM1, fM2, fRg1, fRg2, fEn, fRev, fSg, fTp, fIt, eIt, eB, eV, eC, frz, shm, aCons, aNil, poN, poS, Rs.d, Rs.sl, vB, List.cons_append, List.nil_append, List.append_nil, List.replicate_zero, List.replicate_succ, List.getElem?_cons_zero, List.getElem?_cons_succ, List.set_cons_zero, List.set_cons_succ, List.length_cons, List.length_nil, opLen, lenD, opList, opAdd, opSub, opMul, opMod, opDiv, opPow, opMin, opMax, opIx, opSl, cmpB, cEq, cNe, cIsN, cNotN, truD, tgN, tgT, setAll, isKd, opFind, opFind3, opStarts, opStarts3, Nat.reduceLT, Nat.reduceAdd, Nat.reduceSub, Nat.reduceLeDiff, Int.reduceLT, Int.reduceLE, Int.reduceNeg, reduceIte, and_self, true_and, and_true, decide_true, decide_false, Int.toNat_natCast, decide_eq_true g1, decide_eq_true g2, ha, p]
/-- the words on a chain -/
def wds (ps : Pct) : List Nat → List Stp → List (List Nat)
  | w, [] => [w]
  | w, s :: ss => w :: wds ps (usedW ps w s) ss
def strD (ws : List (List Nat)) : List D := ws.map D.str
theorem e_walked0 {ps : Pct} {B : Nat} (hs : SzP ps) (hB : ∀ p ∈ ps, p.1.length ≤ B ∧ p.2.length ≤ B) (S0 : List D) : ∀ (ss : List Stp) (w : List Nat) (k : Nat) (acc : List D) (s4 s5 : Sl), Vld ps w ss → w.length + B * ss.length ≤ 1000 → acc.length + ss.length ≤ 10000 → ∃ t1 t4 t5, forL (tgT [4, 5]) l2_walked (((stL ss).zipIdx k).map fun p => .tup [.int (p.2 : Int), p.1]) [.bo (pctD ps), .sh (.str w), .bo S0, .ow acc, s4, s5] = some (.nx [.bo (pctD ps), t1, .bo S0, .ow (acc ++ strD (wds ps w ss).tail), t4, t5])
  | [], w, k, acc, s4, s5, _, _, _ => ⟨_, s4, s5, by simp [wds, strD, stL, forL]; rfl⟩
  | s :: ss, w, k, acc, s4, s5, ⟨h1, h2⟩, hl, hal => by
    have hlen := used_len hB h1
    have hl' : (usedW ps w s).length + B * ss.length ≤ 1000 := by
      rw [List.length_cons, Nat.mul_add, Nat.mul_one] at hl
      omega
    rw [List.length_cons] at hal
    obtain ⟨t1, t4, t5, ih⟩ := e_walked0 hs hB S0 ss (usedW ps w s) (k + 1) (acc ++ [.str (usedW ps w s)]) (.sh (.int (k : Int))) (.sh (stD s)) h2 hl' (by simp; omega)
    have hu := e_pused (w := w) hs (by omega) h1
    refine ⟨t1, t4, t5, ?_⟩
    have tg : tgT [4, 5] (.tup [.int (k : Int), stD s]) [.bo (pctD ps), .sh (.str w), .bo S0, .ow acc, s4, s5] = some [.bo (pctD ps), .sh (.str w), .bo S0, .ow acc, .sh (.int (k : Int)), .sh (stD s)] := rfl
    have body : l2_walked [.bo (pctD ps), .sh (.str w), .bo S0, .ow acc, .sh (.int (k : Int)), .sh (stD s)] = some (.nx [.bo (pctD ps), .sh (.str (usedW ps w s)), .bo S0, .ow (acc ++ [.str (usedW ps w s)]), .sh (.int (k : Int)), .sh (stD s)]) := by
      unfold l2_walked y1_walked
      simp (disch := first | omega | assumption) only [if_pos, if_neg, decide_eq_true, decide_eq_false, atI_of, cutL_take, cutL_drop, cutL_mid, ge_iff_le, gt_iff_lt, Int.reduceToNat, Int.toNat_zero, Int.toNat_one, Bool.not_true, Bool.not_false, szl, D.key, fDNew, fDGet, sDPutV, fDSet, fRg3, fChV, fSortL, frL, frS, fSortB, sRem, sqAt, eIxI, fItm, fItV, chS, sItC, sItA, sItI, sItS, fTmp, Sl.mut, Sl.th, O.d, sqD, D.atm, sTryR, fSq, aConsF, aNilF, eO, sTgF, setFd, Fd.sl, opJoinRev, fLRev, runDef, runDefI, ioAt, insA, chL, getO, setO, getL, setL, obAt, eFd, eFV, eFB, fFld, fMeth, fMethI, fMake, fCallI, aHere, fIsO, sFldS, setF, Rs.fd, Fd.d, O.d, fMethD, chF, sAppF, fPopF, fPop0, fPop1, sIns, sRetI, sRetNI, fZip, fML, opAny, opAll, opSorted, opMaxL, opMinL, opRfind, opCount, List.map_cons, List.map_nil, cInA, cNinA, inD, itD, fItA, eItA, cLtA, cLeA, fRr1, fRr2, opInt, sPar, fCallD, fRaise0, fRaise1, sTryAs, sTry, aftr, noX, allEq_const, fXf, fXi, fLc, lcL, unE, tYs, Vs.ret, xLock, inis, bof, sNil, sSeq, sAsg, sRet, sRetV, sRetN, sIf, sDrop, sTg, sFor, sBrk, sCnt, sApp, sExt, sOwn, sSetI, opSetI, sLock, unlk, sbnd, bnd, fOp, fCh, fCl, fCall, fLst, fTup, fSl, fIf, fAnd, fOr, fNot, fTru, fAndV, fOrV, fNotV, fNeg, fIsi, fM1, fM2, fRg1, fRg2, fEn, fRev, fSg, fTp, fIt, eIt, eB, eV, eC, frz, shm, aCons, aNil, poN, poS, Rs.d, Rs.sl, vB, List.cons_append, List.nil_append, List.append_nil, List.replicate_zero, List.replicate_succ, List.getElem?_cons_zero, List.getElem?_cons_succ, List.set_cons_zero, List.set_cons_succ, List.length_cons, List.length_nil, opLen, lenD, opList, opAdd, opSub, opMul, opMod, opDiv, opPow, opMin, opMax, opIx, opSl, cmpB, cEq, cNe, cIsN, cNotN, truD, tgN, tgT, setAll, isKd, opFind, opFind3, opStarts, opStarts3, Nat.reduceLT, Nat.reduceAdd, Nat.reduceSub, Nat.reduceLeDiff, Int.reduceLT, Int.reduceLE, Int.reduceNeg, reduceIte, and_self, true_and, and_true, decide_true, decide_false, Int.toNat_natCast, hu]
    have e1 : (wds ps w (s :: ss)).tail = usedW ps w s :: (wds ps (usedW ps w s) ss).tail := by
      cases ss <;> rfl
    show forL (tgT [4, 5]) l2_walked (((stD s :: stL ss).zipIdx k).map fun p => .tup [.int (p.2 : Int), p.1]) _ = _
    rw [List.zipIdx_cons, List.map_cons, forL, tg]
    dsimp only
    rw [body]
    dsimp only
    rw [ih, e1, List.append_assoc]
    rfl
theorem wds_cons (ps : Pct) (w : List Nat) (ss : List Stp) : wds ps w ss = w :: (wds ps w ss).tail := by cases ss <;> rfl
theorem e_walked {ps : Pct} {B : Nat} {w : List Nat} {ss : List Stp} (hs : SzP ps) (hB : ∀ p ∈ ps, p.1.length ≤ B ∧ p.2.length ≤ B) (hv : Vld ps w ss) (hl : w.length + B * ss.length ≤ 1000) (hsl : ss.length ≤ 1000) : g_walked [.lst (pctD ps), .str w, .lst (stL ss)] = some (.rt (.ow (strD (wds ps w ss)))) := by
  unfold g_walked b_walked
  obtain ⟨t1, t4, t5, h⟩ := e_walked0 hs hB (stL ss) ss w 0 [.str w] .un .un hv hl (by simp; omega)
  have h' : forL (tgT [4, 5]) l2_walked (enumL (stL ss)) [.bo (pctD ps), .sh (.str w), .bo (stL ss), .ow [.str w], .un, .un] = _ := h
  have e1 : D.str w :: strD (wds ps w ss).tail = strD (wds ps w ss) := by
    conv => rhs; rw [wds_cons]
    rfl
  simp (disch := first | omega | assumption) only [if_pos, if_neg, decide_eq_true, decide_eq_false, atI_of, cutL_take, cutL_drop, cutL_mid, ge_iff_le, gt_iff_lt, Int.reduceToNat, Int.toNat_zero, Int.toNat_one, Bool.not_true, Bool.not_false, szl, D.key, fDNew, fDGet, sDPutV, fDSet, fRg3, fChV, fSortL, frL, frS, fSortB, sRem, sqAt, eIxI, fItm, fItV, chS, sItC, sItA, sItI, sItS, fTmp, Sl.mut, Sl.th, O.d, sqD, D.atm, sTryR, fSq, aConsF, aNilF, eO, sTgF, setFd, Fd.sl, opJoinRev, fLRev, runDef, runDefI, ioAt, insA, chL, getO, setO, getL, setL, obAt, eFd, eFV, eFB, fFld, fMeth, fMethI, fMake, fCallI, aHere, fIsO, sFldS, setF, Rs.fd, Fd.d, O.d, fMethD, chF, sAppF, fPopF, fPop0, fPop1, sIns, sRetI, sRetNI, fZip, fML, opAny, opAll, opSorted, opMaxL, opMinL, opRfind, opCount, List.map_cons, List.map_nil, cInA, cNinA, inD, itD, fItA, eItA, cLtA, cLeA, fRr1, fRr2, opInt, sPar, fCallD, fRaise0, fRaise1, sTryAs, sTry, aftr, noX, allEq_const, fXf, fXi, fLc, lcL, unE, tYs, Vs.ret, xLock, inis, bof, sNil, sSeq, sAsg, sRet, sRetV, sRetN, sIf, sDrop, sTg, sFor, sBrk, sCnt, sApp, sExt, sOwn, sSetI, opSetI, sLock, unlk, sbnd, bnd, fOp, fCh, fCl, fCall, fLst, fTup, fSl, fIf, fAnd, fOr, fNot, fTru, fAndV, fOrV, fNotV, fNeg, fIsi, fM1, fM2, fRg1, fRg2, fEn, fRev, fSg, fTp, fIt, eIt, eB, eV, eC, frz, shm, aCons, aNil, poN, poS, Rs.d, Rs.sl, vB, List.cons_append, List.nil_append, List.append_nil, List.replicate_zero, List.replicate_succ, List.getElem?_cons_zero, List.getElem?_cons_succ, List.set_cons_zero, List.set_cons_succ, List.length_cons, List.length_nil, opLen, lenD, opList, opAdd, opSub, opMul, opMod, opDiv, opPow, opMin, opMax, opIx, opSl, cmpB, cEq, cNe, cIsN, cNotN, truD, tgN, tgT, setAll, isKd, opFind, opFind3, opStarts, opStarts3, Nat.reduceLT, Nat.reduceAdd, Nat.reduceSub, Nat.reduceLeDiff, Int.reduceLT, Int.reduceLE, Int.reduceNeg, reduceIte, and_self, true_and, and_true, decide_true, decide_false, Int.toNat_natCast, h', e1]

/-! words on a chain -/
theorem wds_len (ps : Pct) : ∀ (ss : List Stp) (w : List Nat), (wds ps w ss).length = ss.length + 1
  | [], _ => rfl
  | s :: ss, w => by rw [wds, List.length_cons, wds_len ps ss, List.length_cons]
theorem strD_len (ws : List (List Nat)) : (strD ws).length = ws.length := List.length_map ..
theorem wds_last (ps : Pct) : ∀ (ss : List Stp) (w : List Nat), (wds ps w ss)[ss.length]? = some (endW ps w ss)
  | [], _ => rfl
  | s :: ss, w => by
    rw [wds, List.length_cons, List.getElem?_cons_succ, wds_last ps ss]
    rfl
theorem str_last (ps : Pct) (w : List Nat) (ss : List Stp) : atI (strD (wds ps w ss)) (-1) = some (.str (endW ps w ss)) := by
  have hl : (strD (wds ps w ss)).length = ss.length + 1 := by rw [strD_len, wds_len]
  unfold atI ixN
  rw [if_neg (by decide), hl]
  have e : ((-1 : Int) + ((ss.length + 1 : Nat) : Int)).toNat = ss.length := by omega
  rw [if_pos (by omega), e]
  show (strD (wds ps w ss))[ss.length]? = _
  unfold strD
  rw [List.getElem?_map, wds_last]
  rfl
theorem str_first (ps : Pct) (w : List Nat) (ss : List Stp) : (strD (wds ps w ss))[0]? = some (.str w) := by
  rw [wds_cons]
  rfl

theorem enum_at {l : List D} {i : Nat} {d : D} (h : (enumL l)[i]? = some d) : ∃ x, l[i]? = some x ∧ d = .tup [.int (i : Int), x] := by
  unfold enumL at h
  rw [List.getElem?_map, List.getElem?_zipIdx] at h
  cases hx : l[i]? with
  | none => rw [hx] at h; cases h
  | some x =>
    rw [hx] at h
    have h := Option.some.inj h
    refine ⟨x, rfl, ?_⟩
    rw [← h, Nat.zero_add]
def OkS (ps : Pct) (w : List Nat) (most : Nat) (s : Stp) : Prop := Fit ps w s ∧ (usedW ps w s).length ≤ most
theorem e_uses2 {ps : Pct} {w : List Nat} {most i : Nat} (fo : Bool) (hs : SzP ps) (hw : w.length ≤ 100) (hi : i < ps.length) (hmo : most ≤ 1000) (l : List Stp) (hl : l.length ≤ 100000) (hok : ∀ s ∈ l, OkS ps w most s) (s7 s8 s9 : Sl) : ∃ l' t7 t8 t9, l2_law_uses [.bo (pctD ps), .sh (.str w), .sh (.int (most : Int)), .ow (stL l), .sh (.int (i : Int)), .sh (pD (ps.getD i ([], []))), .sh (.bl fo), s7, s8, s9] = some (.nx [.bo (pctD ps), .sh (.str w), .sh (.int (most : Int)), .ow (stL l'), .sh (.int (i : Int)), .sh (pD (ps.getD i ([], []))), .sh (.bl fo), t7, t8, t9]) ∧ l'.length ≤ l.length + 101 ∧ ∀ s ∈ l', OkS ps w most s := by
  obtain ⟨z1, z2⟩ := szP_at hs hi
  obtain ⟨P, hP⟩ : ∃ P, P = ps.getD i ([], []) := ⟨_, rfl⟩
  obtain ⟨o, ho⟩ : ∃ o, o = oldS ps ⟨i, 0, fo⟩ := ⟨_, rfl⟩
  obtain ⟨q, hq⟩ : ∃ q, q = newS ps ⟨i, 0, fo⟩ := ⟨_, rfl⟩
  have ho2 : ∀ a, oldS ps ⟨i, a, fo⟩ = o := fun a => by rw [ho]; rfl
  have hq2 : ∀ a, newS ps ⟨i, a, fo⟩ = q := fun a => by rw [hq]; rfl
  have hol : o.length ≤ 1000 := by
    rw [ho]
    unfold oldS
    cases fo
    · exact z2
    · exact z1
  have hql : q.length ≤ 1000 := by
    rw [hq]
    unfold newS
    cases fo
    · exact z1
    · exact z2
  rw [← hP]
  have sides : (fo = true ∧ P.1 = o ∧ P.2 = q) ∨ (fo = false ∧ P.2 = o ∧ P.1 = q) := by
    cases hf : fo with
    | true => exact .inl ⟨rfl, by rw [ho, hP, hf]; rfl, by rw [hq, hP, hf]; rfl⟩
    | false => exact .inr ⟨rfl, by rw [ho, hP, hf]; rfl, by rw [hq, hP, hf]; rfl⟩
  have ahead : ∀ s9, i1_law_uses [.bo (pctD ps), .sh (.str w), .sh (.int (most : Int)), .ow (stL l), .sh (.int (i : Int)), .sh (pD P), .sh (.bl fo), .sh (.str P.1), .sh (.str P.2), s9] = some (.nx [.bo (pctD ps), .sh (.str w), .sh (.int (most : Int)), .ow (stL l), .sh (.int (i : Int)), .sh (pD P), .sh (.bl fo), .sh (.str o), .sh (.str q), s9]) := fun s9 => by
    unfold i1_law_uses
    rcases sides with ⟨hf, h1, h2⟩ | ⟨hf, h1, h2⟩
    · rw [hf, h1, h2]
      simp (disch := first | omega | assumption) only [if_pos, if_neg, decide_eq_true, decide_eq_false, atI_of, cutL_take, cutL_drop, cutL_mid, ge_iff_le, gt_iff_lt, Int.reduceToNat, Int.toNat_zero, Int.toNat_one, Bool.not_true, Bool.not_false, szl, D.key, fDNew, fDGet, sDPutV, fDSet, fRg3, fChV, fSortL, frL, frS, fSortB, sRem, sqAt, eIxI, fItm, fItV, chS, sItC, sItA, sItI, sItS, fTmp, Sl.mut, Sl.th, O.d, sqD, D.atm, sTryR, fSq, aConsF, aNilF, eO, sTgF, setFd, Fd.sl, opJoinRev, fLRev, runDef, runDefI, ioAt, insA, chL, getO, setO, getL, setL, obAt, eFd, eFV, eFB, fFld, fMeth, fMethI, fMake, fCallI, aHere, fIsO, sFldS, setF, Rs.fd, Fd.d, O.d, fMethD, chF, sAppF, fPopF, fPop0, fPop1, sIns, sRetI, sRetNI, fZip, fML, opAny, opAll, opSorted, opMaxL, opMinL, opRfind, opCount, List.map_cons, List.map_nil, cInA, cNinA, inD, itD, fItA, eItA, cLtA, cLeA, fRr1, fRr2, opInt, sPar, fCallD, fRaise0, fRaise1, sTryAs, sTry, aftr, noX, allEq_const, fXf, fXi, fLc, lcL, unE, tYs, Vs.ret, xLock, inis, bof, sNil, sSeq, sAsg, sRet, sRetV, sRetN, sIf, sDrop, sTg, sFor, sBrk, sCnt, sApp, sExt, sOwn, sSetI, opSetI, sLock, unlk, sbnd, bnd, fOp, fCh, fCl, fCall, fLst, fTup, fSl, fIf, fAnd, fOr, fNot, fTru, fAndV, fOrV, fNotV, fNeg, fIsi, fM1, fM2, fRg1, fRg2, fEn, fRev, fSg, fTp, fIt, eIt, eB, eV, eC, frz, shm, aCons, aNil, poN, poS, Rs.d, Rs.sl, vB, List.cons_append, List.nil_append, List.append_nil, List.replicate_zero, List.replicate_succ, List.getElem?_cons_zero, List.getElem?_cons_succ, List.set_cons_zero, List.set_cons_succ, List.length_cons, List.length_nil, opLen, lenD, opList, opAdd, opSub, opMul, opMod, opDiv, opPow, opMin, opMax, opIx, opSl, cmpB, cEq, cNe, cIsN, cNotN, truD, tgN, tgT, setAll, isKd, opFind, opFind3, opStarts, opStarts3, Nat.reduceLT, Nat.reduceAdd, Nat.reduceSub, Nat.reduceLeDiff, Int.reduceLT, Int.reduceLE, Int.reduceNeg, reduceIte, and_self, true_and, and_true, decide_true, decide_false, Int.toNat_natCast]
    · rw [hf, h1, h2]
      simp (disch := first | omega | assumption) only [if_pos, if_neg, decide_eq_true, decide_eq_false, atI_of, cutL_take, cutL_drop, cutL_mid, ge_iff_le, gt_iff_lt, Int.reduceToNat, Int.toNat_zero, Int.toNat_one, Bool.not_true, Bool.not_false, szl, D.key, fDNew, fDGet, sDPutV, fDSet, fRg3, fChV, fSortL, frL, frS, fSortB, sRem, sqAt, eIxI, fItm, fItV, chS, sItC, sItA, sItI, sItS, fTmp, Sl.mut, Sl.th, O.d, sqD, D.atm, sTryR, fSq, aConsF, aNilF, eO, sTgF, setFd, Fd.sl, opJoinRev, fLRev, runDef, runDefI, ioAt, insA, chL, getO, setO, getL, setL, obAt, eFd, eFV, eFB, fFld, fMeth, fMethI, fMake, fCallI, aHere, fIsO, sFldS, setF, Rs.fd, Fd.d, O.d, fMethD, chF, sAppF, fPopF, fPop0, fPop1, sIns, sRetI, sRetNI, fZip, fML, opAny, opAll, opSorted, opMaxL, opMinL, opRfind, opCount, List.map_cons, List.map_nil, cInA, cNinA, inD, itD, fItA, eItA, cLtA, cLeA, fRr1, fRr2, opInt, sPar, fCallD, fRaise0, fRaise1, sTryAs, sTry, aftr, noX, allEq_const, fXf, fXi, fLc, lcL, unE, tYs, Vs.ret, xLock, inis, bof, sNil, sSeq, sAsg, sRet, sRetV, sRetN, sIf, sDrop, sTg, sFor, sBrk, sCnt, sApp, sExt, sOwn, sSetI, opSetI, sLock, unlk, sbnd, bnd, fOp, fCh, fCl, fCall, fLst, fTup, fSl, fIf, fAnd, fOr, fNot, fTru, fAndV, fOrV, fNotV, fNeg, fIsi, fM1, fM2, fRg1, fRg2, fEn, fRev, fSg, fTp, fIt, eIt, eB, eV, eC, frz, shm, aCons, aNil, poN, poS, Rs.d, Rs.sl, vB, List.cons_append, List.nil_append, List.append_nil, List.replicate_zero, List.replicate_succ, List.getElem?_cons_zero, List.getElem?_cons_succ, List.set_cons_zero, List.set_cons_succ, List.length_cons, List.length_nil, opLen, lenD, opList, opAdd, opSub, opMul, opMod, opDiv, opPow, opMin, opMax, opIx, opSl, cmpB, cEq, cNe, cIsN, cNotN, truD, tgN, tgT, setAll, isKd, opFind, opFind3, opStarts, opStarts3, Nat.reduceLT, Nat.reduceAdd, Nat.reduceSub, Nat.reduceLeDiff, Int.reduceLT, Int.reduceLE, Int.reduceNeg, reduceIte, and_self, true_and, and_true, decide_true, decide_false, Int.toNat_natCast]
  have tg : ∀ a b c, tgT [7, 8] (pD P) [.bo (pctD ps), .sh (.str w), .sh (.int (most : Int)), .ow (stL l), .sh (.int (i : Int)), .sh (pD P), .sh (.bl fo), a, b, c] = some [.bo (pctD ps), .sh (.str w), .sh (.int (most : Int)), .ow (stL l), .sh (.int (i : Int)), .sh (pD P), .sh (.bl fo), .sh (.str P.1), .sh (.str P.2), c] := fun _ _ _ => rfl
  unfold l2_law_uses i3_law_uses
  by_cases hm : (w.length : Int) - (o.length : Int) + (q.length : Int) ≤ (most : Int)
  · obtain ⟨k, hk, hk1⟩ : ∃ k : Nat, ((w.length : Int) - (o.length : Int) + 1).toNat = k ∧ (k + o.length ≤ w.length + 1 ∨ k = 0) := ⟨_, rfl, by omega⟩
    obtain ⟨e', g1, l', s9', rfl, g2, g3⟩ := forL_inv (tg := tgN 9) (body := l1_law_uses) (fun k e => ∃ (l' : List Stp) (s9 : Sl), e = [.bo (pctD ps), .sh (.str w), .sh (.int (most : Int)), .ow (stL l'), .sh (.int (i : Int)), .sh (pD P), .sh (.bl fo), .sh (.str o), .sh (.str q), s9] ∧ l'.length ≤ l.length + k ∧ ∀ s ∈ l', OkS ps w most s)
      (rng 0 k) [.bo (pctD ps), .sh (.str w), .sh (.int (most : Int)), .ow (stL l), .sh (.int (i : Int)), .sh (pD P), .sh (.bl fo), .sh (.str o), .sh (.str q), s9] ⟨l, s9, rfl, Nat.le_refl _, hok⟩ (fun a d e hd ⟨l', s9, he, h2, h3⟩ => by
        obtain ⟨ha, rfl⟩ := rng_get hd
        subst he
        refine ⟨_, rfl, ?_⟩
        have e0 : (0 : Int) + (a : Int) = (a : Int) := by omega
        have haw : a + o.length ≤ w.length := by omega
        have e1 : ((a : Int) + (o.length : Int)).toNat - (a : Int).toNat = o.length := by omega
        have c : cutL w (some (a : Int)) (some ((a : Int) + (o.length : Int))) = (w.drop a).take o.length := by
          rw [cutL_mid w (by omega) (by omega), e1, Int.toNat_natCast]
        have hll : (stL l').length ≤ 200000 := by rw [stL_len]; omega
        unfold l1_law_uses i2_law_uses
        by_cases h1 : (w.drop a).take o.length = o
        · have hfit : Fit ps w ⟨i, a, fo⟩ := ⟨hi, by rw [ho2]; exact haw, by rw [ho2]; exact h1⟩
          have hul : (usedW ps w ⟨i, a, fo⟩).length ≤ most := by
            obtain ⟨x, y, f1, _, f3⟩ := fit_split hfit
            rw [f3, hq2]
            rw [ho2] at f1
            have := congrArg List.length f1
            simp only [List.length_append] at this ⊢
            omega
          have e5 : stL l' ++ [.tup [.int (i : Int), .int (a : Int), .bl fo]] = stL (l' ++ [⟨i, a, fo⟩]) := by
            unfold stL
            rw [List.map_append]
            rfl
          simp (disch := first | omega | assumption) only [if_pos, if_neg, decide_eq_true, decide_eq_false, atI_of, cutL_take, cutL_drop, cutL_mid, ge_iff_le, gt_iff_lt, Int.reduceToNat, Int.toNat_zero, Int.toNat_one, Bool.not_true, Bool.not_false, szl, D.key, fDNew, fDGet, sDPutV, fDSet, fRg3, fChV, fSortL, frL, frS, fSortB, sRem, sqAt, eIxI, fItm, fItV, chS, sItC, sItA, sItI, sItS, fTmp, Sl.mut, Sl.th, O.d, sqD, D.atm, sTryR, fSq, aConsF, aNilF, eO, sTgF, setFd, Fd.sl, opJoinRev, fLRev, runDef, runDefI, ioAt, insA, chL, getO, setO, getL, setL, obAt, eFd, eFV, eFB, fFld, fMeth, fMethI, fMake, fCallI, aHere, fIsO, sFldS, setF, Rs.fd, Fd.d, O.d, fMethD, chF, sAppF, fPopF, fPop0, fPop1, sIns, sRetI, sRetNI, fZip, fML, opAny, opAll, opSorted, opMaxL, opMinL, opRfind, opCount, List.map_cons, List.map_nil, cInA, cNinA, inD, itD, fItA, eItA, cLtA, cLeA, fRr1, fRr2, opInt, sPar, fCallD, fRaise0, fRaise1, sTryAs, sTry, aftr, noX, allEq_const, fXf, fXi, fLc, lcL, unE, tYs, Vs.ret, xLock, inis, bof, sNil, sSeq, sAsg, sRet, sRetV, sRetN, sIf, sDrop, sTg, sFor, sBrk, sCnt, sApp, sExt, sOwn, sSetI, opSetI, sLock, unlk, sbnd, bnd, fOp, fCh, fCl, fCall, fLst, fTup, fSl, fIf, fAnd, fOr, fNot, fTru, fAndV, fOrV, fNotV, fNeg, fIsi, fM1, fM2, fRg1, fRg2, fEn, fRev, fSg, fTp, fIt, eIt, eB, eV, eC, frz, shm, aCons, aNil, poN, poS, Rs.d, Rs.sl, vB, List.cons_append, List.nil_append, List.append_nil, List.replicate_zero, List.replicate_succ, List.getElem?_cons_zero, List.getElem?_cons_succ, List.set_cons_zero, List.set_cons_succ, List.length_cons, List.length_nil, opLen, lenD, opList, opAdd, opSub, opMul, opMod, opDiv, opPow, opMin, opMax, opIx, opSl, cmpB, cEq, cNe, cIsN, cNotN, truD, tgN, tgT, setAll, isKd, opFind, opFind3, opStarts, opStarts3, Nat.reduceLT, Nat.reduceAdd, Nat.reduceSub, Nat.reduceLeDiff, Int.reduceLT, Int.reduceLE, Int.reduceNeg, reduceIte, and_self, true_and, and_true, decide_true, decide_false, Int.toNat_natCast, e0, c, decide_eq_true h1, e5]
          refine ⟨_, rfl, l' ++ [⟨i, a, fo⟩], _, rfl, by simp; omega, fun s hs => ?_⟩
          rcases List.mem_append.mp hs with hs | hs
          · exact h3 s hs
          · rw [List.mem_singleton.mp hs]
            exact ⟨hfit, hul⟩
        · simp (disch := first | omega | assumption) only [if_pos, if_neg, decide_eq_true, decide_eq_false, atI_of, cutL_take, cutL_drop, cutL_mid, ge_iff_le, gt_iff_lt, Int.reduceToNat, Int.toNat_zero, Int.toNat_one, Bool.not_true, Bool.not_false, szl, D.key, fDNew, fDGet, sDPutV, fDSet, fRg3, fChV, fSortL, frL, frS, fSortB, sRem, sqAt, eIxI, fItm, fItV, chS, sItC, sItA, sItI, sItS, fTmp, Sl.mut, Sl.th, O.d, sqD, D.atm, sTryR, fSq, aConsF, aNilF, eO, sTgF, setFd, Fd.sl, opJoinRev, fLRev, runDef, runDefI, ioAt, insA, chL, getO, setO, getL, setL, obAt, eFd, eFV, eFB, fFld, fMeth, fMethI, fMake, fCallI, aHere, fIsO, sFldS, setF, Rs.fd, Fd.d, O.d, fMethD, chF, sAppF, fPopF, fPop0, fPop1, sIns, sRetI, sRetNI, fZip, fML, opAny, opAll, opSorted, opMaxL, opMinL, opRfind, opCount, List.map_cons, List.map_nil, cInA, cNinA, inD, itD, fItA, eItA, cLtA, cLeA, fRr1, fRr2, opInt, sPar, fCallD, fRaise0, fRaise1, sTryAs, sTry, aftr, noX, allEq_const, fXf, fXi, fLc, lcL, unE, tYs, Vs.ret, xLock, inis, bof, sNil, sSeq, sAsg, sRet, sRetV, sRetN, sIf, sDrop, sTg, sFor, sBrk, sCnt, sApp, sExt, sOwn, sSetI, opSetI, sLock, unlk, sbnd, bnd, fOp, fCh, fCl, fCall, fLst, fTup, fSl, fIf, fAnd, fOr, fNot, fTru, fAndV, fOrV, fNotV, fNeg, fIsi, fM1, fM2, fRg1, fRg2, fEn, fRev, fSg, fTp, fIt, eIt, eB, eV, eC, frz, shm, aCons, aNil, poN, poS, Rs.d, Rs.sl, vB, List.cons_append, List.nil_append, List.append_nil, List.replicate_zero, List.replicate_succ, List.getElem?_cons_zero, List.getElem?_cons_succ, List.set_cons_zero, List.set_cons_succ, List.length_cons, List.length_nil, opLen, lenD, opList, opAdd, opSub, opMul, opMod, opDiv, opPow, opMin, opMax, opIx, opSl, cmpB, cEq, cNe, cIsN, cNotN, truD, tgN, tgT, setAll, isKd, opFind, opFind3, opStarts, opStarts3, Nat.reduceLT, Nat.reduceAdd, Nat.reduceSub, Nat.reduceLeDiff, Int.reduceLT, Int.reduceLE, Int.reduceNeg, reduceIte, and_self, true_and, and_true, decide_true, decide_false, Int.toNat_natCast, e0, c, decide_eq_false h1]
          exact ⟨_, rfl, l', _, rfl, by omega, h3⟩)
    rw [rng_len] at g2
    refine ⟨l', .sh (.str o), .sh (.str q), s9', ?_, by omega, g3⟩
    unfold pD at ahead tg g1 ⊢
    simp (disch := first | omega | assumption) only [if_pos, if_neg, decide_eq_true, decide_eq_false, atI_of, cutL_take, cutL_drop, cutL_mid, ge_iff_le, gt_iff_lt, Int.reduceToNat, Int.toNat_zero, Int.toNat_one, Bool.not_true, Bool.not_false, szl, D.key, fDNew, fDGet, sDPutV, fDSet, fRg3, fChV, fSortL, frL, frS, fSortB, sRem, sqAt, eIxI, fItm, fItV, chS, sItC, sItA, sItI, sItS, fTmp, Sl.mut, Sl.th, O.d, sqD, D.atm, sTryR, fSq, aConsF, aNilF, eO, sTgF, setFd, Fd.sl, opJoinRev, fLRev, runDef, runDefI, ioAt, insA, chL, getO, setO, getL, setL, obAt, eFd, eFV, eFB, fFld, fMeth, fMethI, fMake, fCallI, aHere, fIsO, sFldS, setF, Rs.fd, Fd.d, O.d, fMethD, chF, sAppF, fPopF, fPop0, fPop1, sIns, sRetI, sRetNI, fZip, fML, opAny, opAll, opSorted, opMaxL, opMinL, opRfind, opCount, List.map_cons, List.map_nil, cInA, cNinA, inD, itD, fItA, eItA, cLtA, cLeA, fRr1, fRr2, opInt, sPar, fCallD, fRaise0, fRaise1, sTryAs, sTry, aftr, noX, allEq_const, fXf, fXi, fLc, lcL, unE, tYs, Vs.ret, xLock, inis, bof, sNil, sSeq, sAsg, sRet, sRetV, sRetN, sIf, sDrop, sTg, sFor, sBrk, sCnt, sApp, sExt, sOwn, sSetI, opSetI, sLock, unlk, sbnd, bnd, fOp, fCh, fCl, fCall, fLst, fTup, fSl, fIf, fAnd, fOr, fNot, fTru, fAndV, fOrV, fNotV, fNeg, fIsi, fM1, fM2, fRg1, fRg2, fEn, fRev, fSg, fTp, fIt, eIt, eB, eV, eC, frz, shm, aCons, aNil, poN, poS, Rs.d, Rs.sl, vB, List.cons_append, List.nil_append, List.append_nil, List.replicate_zero, List.replicate_succ, List.getElem?_cons_zero, List.getElem?_cons_succ, List.set_cons_zero, List.set_cons_succ, List.length_cons, List.length_nil, opLen, lenD, opList, opAdd, opSub, opMul, opMod, opDiv, opPow, opMin, opMax, opIx, opSl, cmpB, cEq, cNe, cIsN, cNotN, truD, tgN, tgT, setAll, isKd, opFind, opFind3, opStarts, opStarts3, Nat.reduceLT, Nat.reduceAdd, Nat.reduceSub, Nat.reduceLeDiff, Int.reduceLT, Int.reduceLE, Int.reduceNeg, reduceIte, and_self, true_and, and_true, decide_true, decide_false, Int.toNat_natCast, tg, ahead, decide_eq_true hm, hk, g1]
  · refine ⟨l, .sh (.str o), .sh (.str q), s9, ?_, by omega, hok⟩
    unfold pD at ahead tg ⊢
    simp (disch := first | omega | assumption) only [if_pos, if_neg, decide_eq_true, decide_eq_false, atI_of, cutL_take, cutL_drop, cutL_mid, ge_iff_le, gt_iff_lt, Int.reduceToNat, Int.toNat_zero, Int.toNat_one, Bool.not_true, Bool.not_false, szl, D.key, fDNew, fDGet, sDPutV, fDSet, fRg3, fChV, fSortL, frL, frS, fSortB, sRem, sqAt, eIxI, fItm, fItV, chS, sItC, sItA, sItI, sItS, fTmp, Sl.mut, Sl.th, O.d, sqD, D.atm, sTryR, fSq, aConsF, aNilF, eO, sTgF, setFd, Fd.sl, opJoinRev, fLRev, runDef, runDefI, ioAt, insA, chL, getO, setO, getL, setL, obAt, eFd, eFV, eFB, fFld, fMeth, fMethI, fMake, fCallI, aHere, fIsO, sFldS, setF, Rs.fd, Fd.d, O.d, fMethD, chF, sAppF, fPopF, fPop0, fPop1, sIns, sRetI, sRetNI, fZip, fML, opAny, opAll, opSorted, opMaxL, opMinL, opRfind, opCount, List.map_cons, List.map_nil, cInA, cNinA, inD, itD, fItA, eItA, cLtA, cLeA, fRr1, fRr2, opInt, sPar, fCallD, fRaise0, fRaise1, sTryAs, sTry, aftr, noX, allEq_const, fXf, fXi, fLc, lcL, unE, tYs, Vs.ret, xLock, inis, bof, sNil, sSeq, sAsg, sRet, sRetV, sRetN, sIf, sDrop, sTg, sFor, sBrk, sCnt, sApp, sExt, sOwn, sSetI, opSetI, sLock, unlk, sbnd, bnd, fOp, fCh, fCl, fCall, fLst, fTup, fSl, fIf, fAnd, fOr, fNot, fTru, fAndV, fOrV, fNotV, fNeg, fIsi, fM1, fM2, fRg1, fRg2, fEn, fRev, fSg, fTp, fIt, eIt, eB, eV, eC, frz, shm, aCons, aNil, poN, poS, Rs.d, Rs.sl, vB, List.cons_append, List.nil_append, List.append_nil, List.replicate_zero, List.replicate_succ, List.getElem?_cons_zero, List.getElem?_cons_succ, List.set_cons_zero, List.set_cons_succ, List.length_cons, List.length_nil, opLen, lenD, opList, opAdd, opSub, opMul, opMod, opDiv, opPow, opMin, opMax, opIx, opSl, cmpB, cEq, cNe, cIsN, cNotN, truD, tgN, tgT, setAll, isKd, opFind, opFind3, opStarts, opStarts3, Nat.reduceLT, Nat.reduceAdd, Nat.reduceSub, Nat.reduceLeDiff, Int.reduceLT, Int.reduceLE, Int.reduceNeg, reduceIte, and_self, true_and, and_true, decide_true, decide_false, Int.toNat_natCast, tg, ahead, decide_eq_false hm]

theorem e_uses {ps : Pct} {w : List Nat} {most : Nat} (hs : SzP ps) (hpl : ps.length ≤ 10) (hw : w.length ≤ 100) (hmo : most ≤ 1000) : ∃ l, g_law_uses [.lst (pctD ps), .str w, .int (most : Int)] = some (.rt (.ow (stL l))) ∧ l.length ≤ 10000 ∧ ∀ s ∈ l, OkS ps w most s := by
  unfold g_law_uses b_law_uses
  obtain ⟨e', g1, l, s4, s5, s6, s7, s8, s9, rfl, g2, g3⟩ := forL_inv (tg := tgT [4, 5]) (body := l3_law_uses) (fun i e => ∃ (l : List Stp) (s4 s5 s6 s7 s8 s9 : Sl), e = [.bo (pctD ps), .sh (.str w), .sh (.int (most : Int)), .ow (stL l), s4, s5, s6, s7, s8, s9] ∧ l.length ≤ 202 * i ∧ ∀ s ∈ l, OkS ps w most s)
    (enumL (pctD ps)) [.bo (pctD ps), .sh (.str w), .sh (.int (most : Int)), .ow [], .un, .un, .un, .un, .un, .un] ⟨[], _, _, _, _, _, _, rfl, Nat.zero_le _, fun s h => nomatch h⟩ (fun i d e hd ⟨l, s4, s5, s6, s7, s8, s9, he, h2, h3⟩ => by
      subst he
      obtain ⟨x, hx, rfl⟩ := enum_at hd
      have hi : i < ps.length := by
        rw [List.getElem?_eq_some_iff] at hx
        obtain ⟨hx, _⟩ := hx
        rwa [pct_len] at hx
      rw [pct_at hi] at hx
      have hx := (Option.some.inj hx).symm
      subst hx
      refine ⟨_, rfl, ?_⟩
      obtain ⟨l1, t7, t8, t9, f1, f2, f3⟩ := e_uses2 (most := most) true hs hw hi hmo l (by omega) h3 s7 s8 s9
      obtain ⟨l2, u7, u8, u9, k1, k2, k3⟩ := e_uses2 (most := most) false hs hw hi hmo l1 (by omega) f3 t7 t8 t9
      refine ⟨[.bo (pctD ps), .sh (.str w), .sh (.int (most : Int)), .ow (stL l2), .sh (.int (i : Int)), .sh (pD (ps.getD i ([], []))), .sh (.bl false), u7, u8, u9], ?_, l2, _, _, _, _, _, _, rfl, by omega, k3⟩
      have el : forL (tgN 6) l2_law_uses [.bl true, .bl false] [.bo (pctD ps), .sh (.str w), .sh (.int (most : Int)), .ow (stL l), .sh (.int (i : Int)), .sh (pD (ps.getD i ([], []))), s6, s7, s8, s9] = some (.nx [.bo (pctD ps), .sh (.str w), .sh (.int (most : Int)), .ow (stL l2), .sh (.int (i : Int)), .sh (pD (ps.getD i ([], []))), .sh (.bl false), u7, u8, u9]) := by
        have t1 : tgN 6 (.bl true) [.bo (pctD ps), .sh (.str w), .sh (.int (most : Int)), .ow (stL l), .sh (.int (i : Int)), .sh (pD (ps.getD i ([], []))), s6, s7, s8, s9] = some [.bo (pctD ps), .sh (.str w), .sh (.int (most : Int)), .ow (stL l), .sh (.int (i : Int)), .sh (pD (ps.getD i ([], []))), .sh (.bl true), s7, s8, s9] := rfl
        have t2 : tgN 6 (.bl false) [.bo (pctD ps), .sh (.str w), .sh (.int (most : Int)), .ow (stL l1), .sh (.int (i : Int)), .sh (pD (ps.getD i ([], []))), .sh (.bl true), t7, t8, t9] = some [.bo (pctD ps), .sh (.str w), .sh (.int (most : Int)), .ow (stL l1), .sh (.int (i : Int)), .sh (pD (ps.getD i ([], []))), .sh (.bl false), t7, t8, t9] := rfl
        rw [forL, t1]
        dsimp only
        rw [show l2_law_uses [.bo (pctD ps), .sh (.str w), .sh (.int (most : Int)), .ow (stL l), .sh (.int (i : Int)), .sh (pD (ps.getD i ([], []))), .sh (.bl true), s7, s8, s9] = _ from f1]
        dsimp only
        rw [forL, t2]
        dsimp only
        rw [show l2_law_uses [.bo (pctD ps), .sh (.str w), .sh (.int (most : Int)), .ow (stL l1), .sh (.int (i : Int)), .sh (pD (ps.getD i ([], []))), .sh (.bl false), t7, t8, t9] = _ from k1]
        dsimp only
        rw [forL]
      unfold l3_law_uses
      unfold pD at el ⊢
      simp (disch := first | omega | assumption) only [if_pos, if_neg, decide_eq_true, decide_eq_false, atI_of, cutL_take, cutL_drop, cutL_mid, ge_iff_le, gt_iff_lt, Int.reduceToNat, Int.toNat_zero, Int.toNat_one, Bool.not_true, Bool.not_false, szl, D.key, fDNew, fDGet, sDPutV, fDSet, fRg3, fChV, fSortL, frL, frS, fSortB, sRem, sqAt, eIxI, fItm, fItV, chS, sItC, sItA, sItI, sItS, fTmp, Sl.mut, Sl.th, O.d, sqD, D.atm, sTryR, fSq, aConsF, aNilF, eO, sTgF, setFd, Fd.sl, opJoinRev, fLRev, runDef, runDefI, ioAt, insA, chL, getO, setO, getL, setL, obAt, eFd, eFV, eFB, fFld, fMeth, fMethI, fMake, fCallI, aHere, fIsO, sFldS, setF, Rs.fd, Fd.d, O.d, fMethD, chF, sAppF, fPopF, fPop0, fPop1, sIns, sRetI, sRetNI, fZip, fML, opAny, opAll, opSorted, opMaxL, opMinL, opRfind, opCount, List.map_cons, List.map_nil, cInA, cNinA, inD, itD, fItA, eItA, cLtA, cLeA, fRr1, fRr2, opInt, sPar, fCallD, fRaise0, fRaise1, sTryAs, sTry, aftr, noX, allEq_const, fXf, fXi, fLc, lcL, unE, tYs, Vs.ret, xLock, inis, bof, sNil, sSeq, sAsg, sRet, sRetV, sRetN, sIf, sDrop, sTg, sFor, sBrk, sCnt, sApp, sExt, sOwn, sSetI, opSetI, sLock, unlk, sbnd, bnd, fOp, fCh, fCl, fCall, fLst, fTup, fSl, fIf, fAnd, fOr, fNot, fTru, fAndV, fOrV, fNotV, fNeg, fIsi, fM1, fM2, fRg1, fRg2, fEn, fRev, fSg, fTp, fIt, eIt, eB, eV, eC, frz, shm, aCons, aNil, poN, poS, Rs.d, Rs.sl, vB, List.cons_append, List.nil_append, List.append_nil, List.replicate_zero, List.replicate_succ, List.getElem?_cons_zero, List.getElem?_cons_succ, List.set_cons_zero, List.set_cons_succ, List.length_cons, List.length_nil, opLen, lenD, opList, opAdd, opSub, opMul, opMod, opDiv, opPow, opMin, opMax, opIx, opSl, cmpB, cEq, cNe, cIsN, cNotN, truD, tgN, tgT, setAll, isKd, opFind, opFind3, opStarts, opStarts3, Nat.reduceLT, Nat.reduceAdd, Nat.reduceSub, Nat.reduceLeDiff, Int.reduceLT, Int.reduceLE, Int.reduceNeg, reduceIte, and_self, true_and, and_true, decide_true, decide_false, Int.toNat_natCast, fTp, el])
  have hel : (enumL (pctD ps)).length = ps.length := by
    unfold enumL
    rw [List.length_map, List.length_zipIdx, pct_len]
  rw [hel] at g2
  refine ⟨l, ?_, by omega, g3⟩
  simp (disch := first | omega | assumption) only [if_pos, if_neg, decide_eq_true, decide_eq_false, atI_of, cutL_take, cutL_drop, cutL_mid, ge_iff_le, gt_iff_lt, Int.reduceToNat, Int.toNat_zero, Int.toNat_one, Bool.not_true, Bool.not_false, szl, D.key, fDNew, fDGet, sDPutV, fDSet, fRg3, fChV, fSortL, frL, frS, fSortB, sRem, sqAt, eIxI, fItm, fItV, chS, sItC, sItA, sItI, sItS, fTmp, Sl.mut, Sl.th, O.d, sqD, D.atm, sTryR, fSq, aConsF, aNilF, eO, sTgF, setFd, Fd.sl, opJoinRev, fLRev, runDef, runDefI, ioAt, insA, chL, getO, setO, getL, setL, obAt, eFd, eFV, eFB, fFld, fMeth, fMethI, fMake, fCallI, aHere, fIsO, sFldS, setF, Rs.fd, Fd.d, O.d, fMethD, chF, sAppF, fPopF, fPop0, fPop1, sIns, sRetI, sRetNI, fZip, fML, opAny, opAll, opSorted, opMaxL, opMinL, opRfind, opCount, List.map_cons, List.map_nil, cInA, cNinA, inD, itD, fItA, eItA, cLtA, cLeA, fRr1, fRr2, opInt, sPar, fCallD, fRaise0, fRaise1, sTryAs, sTry, aftr, noX, allEq_const, fXf, fXi, fLc, lcL, unE, tYs, Vs.ret, xLock, inis, bof, sNil, sSeq, sAsg, sRet, sRetV, sRetN, sIf, sDrop, sTg, sFor, sBrk, sCnt, sApp, sExt, sOwn, sSetI, opSetI, sLock, unlk, sbnd, bnd, fOp, fCh, fCl, fCall, fLst, fTup, fSl, fIf, fAnd, fOr, fNot, fTru, fAndV, fOrV, fNotV, fNeg, fIsi, fM1, fM2, fRg1, fRg2, fEn, fRev, fSg, fTp, fIt, eIt, eB, eV, eC, frz, shm, aCons, aNil, poN, poS, Rs.d, Rs.sl, vB, List.cons_append, List.nil_append, List.append_nil, List.replicate_zero, List.replicate_succ, List.getElem?_cons_zero, List.getElem?_cons_succ, List.set_cons_zero, List.set_cons_succ, List.length_cons, List.length_nil, opLen, lenD, opList, opAdd, opSub, opMul, opMod, opDiv, opPow, opMin, opMax, opIx, opSl, cmpB, cEq, cNe, cIsN, cNotN, truD, tgN, tgT, setAll, isKd, opFind, opFind3, opStarts, opStarts3, Nat.reduceLT, Nat.reduceAdd, Nat.reduceSub, Nat.reduceLeDiff, Int.reduceLT, Int.reduceLE, Int.reduceNeg, reduceIte, and_self, true_and, and_true, decide_true, decide_false, Int.toNat_natCast, g1]


/-! a drawn chain -/
theorem wds_snoc (ps : Pct) (s : Stp) : ∀ (ss : List Stp) (w : List Nat), wds ps w (ss ++ [s]) = wds ps w ss ++ [usedW ps (endW ps w ss) s]
  | [], w => rfl
  | t :: ss, w => by
    rw [List.cons_append, wds, wds_snoc ps s ss, wds, List.cons_append]
    rfl
theorem e_lchain {ps : Pct} {w : List Nat} {most : Nat} (cs : List Int) (hs : SzP ps) (hpl : ps.length ≤ 10) (hw : w.length ≤ most) (hmo : most ≤ 100) (hcl : cs.length ≤ 1000) : ∃ ss, g_law_chain [.lst (pctD ps), .str w, .lst (cs.map D.int), .int (most : Int)] = some (.rt (.sh (.tup [.lst (stL ss), .lst (strD (wds ps w ss))]))) ∧ ss.length ≤ cs.length ∧ Vld ps w ss := by
  unfold g_law_chain b_law_chain
  obtain ⟨e', g1, w', ss, s6, s7, rfl, g2, g3, g4, g5⟩ := forL_inv (tg := tgN 6) (body := l1_law_chain) (fun i e => ∃ (w' : List Nat) (ss : List Stp) (s6 s7 : Sl), e = [.bo (pctD ps), .sh (.str w'), .bo (cs.map D.int), .sh (.int (most : Int)), .ow (stL ss), .ow (strD (wds ps w ss)), s6, s7] ∧ ss.length ≤ i ∧ Vld ps w ss ∧ endW ps w ss = w' ∧ w'.length ≤ most)
    (cs.map D.int) [.bo (pctD ps), .sh (.str w), .bo (cs.map D.int), .sh (.int (most : Int)), .ow [], .ow [.str w], .un, .un] ⟨w, [], _, _, rfl, Nat.le_refl _, trivial, rfl, hw⟩ (fun i d e hd' ⟨w', ss, s6, s7, he, h2, h3, h4, h5⟩ => by
      subst he
      obtain ⟨c, hc, rfl⟩ : ∃ c, cs[i]? = some c ∧ d = .int c := by
        rw [List.getElem?_map] at hd'
        cases hc : cs[i]? with
        | none => rw [hc] at hd'; cases hd'
        | some c => rw [hc] at hd'; exact ⟨c, rfl, (Option.some.inj hd').symm⟩
      have hic : i < cs.length := by
        rw [List.getElem?_eq_some_iff] at hc
        exact hc.1
      refine ⟨_, rfl, ?_⟩
      obtain ⟨l, u1, u2, u3⟩ := e_uses (w := w') (most := most) hs hpl (by omega) (by omega)
      have hsl : (stL ss).length ≤ 1000 := by rw [stL_len]; omega
      have hwl : (strD (wds ps w ss)).length ≤ 1001 := by rw [strD_len, wds_len]; omega
      have hll : (stL l).length ≤ 10000 := by rw [stL_len]; omega
      unfold l1_law_chain i1_law_chain
      by_cases h0 : l.length = 0
      · have hz : ¬ ((stL l).length : Int) > 0 := by rw [stL_len]; omega
        simp (disch := first | omega | assumption) only [if_pos, if_neg, decide_eq_true, decide_eq_false, atI_of, cutL_take, cutL_drop, cutL_mid, ge_iff_le, gt_iff_lt, Int.reduceToNat, Int.toNat_zero, Int.toNat_one, Bool.not_true, Bool.not_false, szl, D.key, fDNew, fDGet, sDPutV, fDSet, fRg3, fChV, fSortL, frL, frS, fSortB, sRem, sqAt, eIxI, fItm, fItV, chS, sItC, sItA, sItI, sItS, fTmp, Sl.mut, Sl.th, O.d, sqD, D.atm, sTryR, fSq, aConsF, aNilF, eO, sTgF, setFd, Fd.sl, opJoinRev, fLRev, runDef, runDefI, ioAt, insA, chL, getO, setO, getL, setL, obAt, eFd, eFV, eFB, fFld, fMeth, fMethI, fMake, fCallI, aHere, fIsO, sFldS, setF, Rs.fd, Fd.d, O.d, fMethD, chF, sAppF, fPopF, fPop0, fPop1, sIns, sRetI, sRetNI, fZip, fML, opAny, opAll, opSorted, opMaxL, opMinL, opRfind, opCount, List.map_cons, List.map_nil, cInA, cNinA, inD, itD, fItA, eItA, cLtA, cLeA, fRr1, fRr2, opInt, sPar, fCallD, fRaise0, fRaise1, sTryAs, sTry, aftr, noX, allEq_const, fXf, fXi, fLc, lcL, unE, tYs, Vs.ret, xLock, inis, bof, sNil, sSeq, sAsg, sRet, sRetV, sRetN, sIf, sDrop, sTg, sFor, sBrk, sCnt, sApp, sExt, sOwn, sSetI, opSetI, sLock, unlk, sbnd, bnd, fOp, fCh, fCl, fCall, fLst, fTup, fSl, fIf, fAnd, fOr, fNot, fTru, fAndV, fOrV, fNotV, fNeg, fIsi, fM1, fM2, fRg1, fRg2, fEn, fRev, fSg, fTp, fIt, eIt, eB, eV, eC, frz, shm, aCons, aNil, poN, poS, Rs.d, Rs.sl, vB, List.cons_append, List.nil_append, List.append_nil, List.replicate_zero, List.replicate_succ, List.getElem?_cons_zero, List.getElem?_cons_succ, List.set_cons_zero, List.set_cons_succ, List.length_cons, List.length_nil, opLen, lenD, opList, opAdd, opSub, opMul, opMod, opDiv, opPow, opMin, opMax, opIx, opSl, cmpB, cEq, cNe, cIsN, cNotN, truD, tgN, tgT, setAll, isKd, opFind, opFind3, opStarts, opStarts3, Nat.reduceLT, Nat.reduceAdd, Nat.reduceSub, Nat.reduceLeDiff, Int.reduceLT, Int.reduceLE, Int.reduceNeg, reduceIte, and_self, true_and, and_true, decide_true, decide_false, Int.toNat_natCast, u1, decide_eq_false hz]
        exact ⟨_, rfl, w', ss, _, _, rfl, by omega, h3, h4, h5⟩
      · have hz : ((stL l).length : Int) > 0 := by rw [stL_len]; omega
        have p1 := Int.emod_nonneg c (show ((stL l).length : Int) ≠ 0 by omega)
        have p2 := Int.emod_lt_of_pos c hz
        obtain ⟨k, hk, hk1⟩ : ∃ k : Nat, c % ((stL l).length : Int) = (k : Int) ∧ k < l.length := by
          rw [stL_len] at p1 p2 ⊢
          exact ⟨(c % (l.length : Int)).toNat, by omega, by omega⟩
        obtain ⟨s, hse⟩ : ∃ s, s = l[k] := ⟨_, rfl⟩
        have hat : (stL l)[k]? = some (stD s) := by
          unfold stL
          rw [List.getElem?_map, List.getElem?_eq_getElem hk1, hse]
          rfl
        obtain ⟨f1, f2⟩ := u3 s (by rw [hse]; exact List.getElem_mem hk1)
        have hu := e_after (w := w') hs (by omega) f1
        have e5 : stL ss ++ [stD s] = stL (ss ++ [s]) := by
          unfold stL
          rw [List.map_append]
          rfl
        have e6 : strD (wds ps w ss) ++ [.str (usedW ps w' s)] = strD (wds ps w (ss ++ [s])) := by
          rw [wds_snoc, h4]
          unfold strD
          rw [List.map_append]
          rfl
        have hla : atI (stL (ss ++ [s])) (-1) = some (stD s) := by
          unfold atI ixN
          have hl1 : (stL (ss ++ [s])).length = ss.length + 1 := by rw [stL_len, List.length_append]; rfl
          rw [if_neg (by decide), hl1]
          have e : ((-1 : Int) + ((ss.length + 1 : Nat) : Int)).toNat = ss.length := by omega
          rw [if_pos (by omega), e]
          show (stL (ss ++ [s]))[ss.length]? = _
          unfold stL
          rw [List.getElem?_map, List.getElem?_append_right (Nat.le_refl _), Nat.sub_self]
          rfl
        simp (disch := first | omega | assumption) only [if_pos, if_neg, decide_eq_true, decide_eq_false, atI_of, cutL_take, cutL_drop, cutL_mid, ge_iff_le, gt_iff_lt, Int.reduceToNat, Int.toNat_zero, Int.toNat_one, Bool.not_true, Bool.not_false, szl, D.key, fDNew, fDGet, sDPutV, fDSet, fRg3, fChV, fSortL, frL, frS, fSortB, sRem, sqAt, eIxI, fItm, fItV, chS, sItC, sItA, sItI, sItS, fTmp, Sl.mut, Sl.th, O.d, sqD, D.atm, sTryR, fSq, aConsF, aNilF, eO, sTgF, setFd, Fd.sl, opJoinRev, fLRev, runDef, runDefI, ioAt, insA, chL, getO, setO, getL, setL, obAt, eFd, eFV, eFB, fFld, fMeth, fMethI, fMake, fCallI, aHere, fIsO, sFldS, setF, Rs.fd, Fd.d, O.d, fMethD, chF, sAppF, fPopF, fPop0, fPop1, sIns, sRetI, sRetNI, fZip, fML, opAny, opAll, opSorted, opMaxL, opMinL, opRfind, opCount, List.map_cons, List.map_nil, cInA, cNinA, inD, itD, fItA, eItA, cLtA, cLeA, fRr1, fRr2, opInt, sPar, fCallD, fRaise0, fRaise1, sTryAs, sTry, aftr, noX, allEq_const, fXf, fXi, fLc, lcL, unE, tYs, Vs.ret, xLock, inis, bof, sNil, sSeq, sAsg, sRet, sRetV, sRetN, sIf, sDrop, sTg, sFor, sBrk, sCnt, sApp, sExt, sOwn, sSetI, opSetI, sLock, unlk, sbnd, bnd, fOp, fCh, fCl, fCall, fLst, fTup, fSl, fIf, fAnd, fOr, fNot, fTru, fAndV, fOrV, fNotV, fNeg, fIsi, fM1, fM2, fRg1, fRg2, fEn, fRev, fSg, fTp, fIt, eIt, eB, eV, eC, frz, shm, aCons, aNil, poN, poS, Rs.d, Rs.sl, vB, List.cons_append, List.nil_append, List.append_nil, List.replicate_zero, List.replicate_succ, List.getElem?_cons_zero, List.getElem?_cons_succ, List.set_cons_zero, List.set_cons_succ, List.length_cons, List.length_nil, opLen, lenD, opList, opAdd, opSub, opMul, opMod, opDiv, opPow, opMin, opMax, opIx, opSl, cmpB, cEq, cNe, cIsN, cNotN, truD, tgN, tgT, setAll, isKd, opFind, opFind3, opStarts, opStarts3, Nat.reduceLT, Nat.reduceAdd, Nat.reduceSub, Nat.reduceLeDiff, Int.reduceLT, Int.reduceLE, Int.reduceNeg, reduceIte, and_self, true_and, and_true, decide_true, decide_false, Int.toNat_natCast, u1, decide_eq_true hz, hk, hat, e5, hla, hu, e6]
        refine ⟨_, rfl, usedW ps w' s, ss ++ [s], _, _, rfl, by simp; omega, ?_, ?_, f2⟩
        · exact vld_app ss [s] w h3 ⟨by rw [h4]; exact f1, trivial⟩
        · rw [end_app, h4]
          rfl)
  rw [List.length_map] at g2
  refine ⟨ss, ?_, g2, g3⟩
  simp (disch := first | omega | assumption) only [if_pos, if_neg, decide_eq_true, decide_eq_false, atI_of, cutL_take, cutL_drop, cutL_mid, ge_iff_le, gt_iff_lt, Int.reduceToNat, Int.toNat_zero, Int.toNat_one, Bool.not_true, Bool.not_false, szl, D.key, fDNew, fDGet, sDPutV, fDSet, fRg3, fChV, fSortL, frL, frS, fSortB, sRem, sqAt, eIxI, fItm, fItV, chS, sItC, sItA, sItI, sItS, fTmp, Sl.mut, Sl.th, O.d, sqD, D.atm, sTryR, fSq, aConsF, aNilF, eO, sTgF, setFd, Fd.sl, opJoinRev, fLRev, runDef, runDefI, ioAt, insA, chL, getO, setO, getL, setL, obAt, eFd, eFV, eFB, fFld, fMeth, fMethI, fMake, fCallI, aHere, fIsO, sFldS, setF, Rs.fd, Fd.d, O.d, fMethD, chF, sAppF, fPopF, fPop0, fPop1, sIns, sRetI, sRetNI, fZip, fML, opAny, opAll, opSorted, opMaxL, opMinL, opRfind, opCount, List.map_cons, List.map_nil, cInA, cNinA, inD, itD, fItA, eItA, cLtA, cLeA, fRr1, fRr2, opInt, sPar, fCallD, fRaise0, fRaise1, sTryAs, sTry, aftr, noX, allEq_const, fXf, fXi, fLc, lcL, unE, tYs, Vs.ret, xLock, inis, bof, sNil, sSeq, sAsg, sRet, sRetV, sRetN, sIf, sDrop, sTg, sFor, sBrk, sCnt, sApp, sExt, sOwn, sSetI, opSetI, sLock, unlk, sbnd, bnd, fOp, fCh, fCl, fCall, fLst, fTup, fSl, fIf, fAnd, fOr, fNot, fTru, fAndV, fOrV, fNotV, fNeg, fIsi, fM1, fM2, fRg1, fRg2, fEn, fRev, fSg, fTp, fIt, eIt, eB, eV, eC, frz, shm, aCons, aNil, poN, poS, Rs.d, Rs.sl, vB, List.cons_append, List.nil_append, List.append_nil, List.replicate_zero, List.replicate_succ, List.getElem?_cons_zero, List.getElem?_cons_succ, List.set_cons_zero, List.set_cons_succ, List.length_cons, List.length_nil, opLen, lenD, opList, opAdd, opSub, opMul, opMod, opDiv, opPow, opMin, opMax, opIx, opSl, cmpB, cEq, cNe, cIsN, cNotN, truD, tgN, tgT, setAll, isKd, opFind, opFind3, opStarts, opStarts3, Nat.reduceLT, Nat.reduceAdd, Nat.reduceSub, Nat.reduceLeDiff, Int.reduceLT, Int.reduceLE, Int.reduceNeg, reduceIte, and_self, true_and, and_true, decide_true, decide_false, Int.toNat_natCast, itD, g1]

theorem okE_sd (s : Stp) : (stD s).okE = true := by
  simp [stD, D.okE, D.pl, plA, D.toP, toPA, PyData.depth, PyData.depthAll]
theorem okE_strs {ws : List (List Nat)} (h : ∀ w ∈ ws, ∀ c ∈ w, c ≤ 122) : (D.lst (strD ws)).okE = true := okE_of (n := 1) (by decide) fun d hd => by
  obtain ⟨w, hw, rfl⟩ := List.mem_map.mp hd
  refine ⟨?_, by simp [D.toP, PyData.depth]⟩
  simp only [D.pl, List.all_eq_true, decide_eq_true_iff]
  exact fun x m => Nat.lt_of_le_of_lt (h w hw x m) (by decide)
theorem e_steps_are (ss : List Stp) (h : ss.length ≤ 1000) : g_law_steps_are [.lst (stL ss), .lst (stL ss)] = some (.rt (.sh (.bl true))) := by
  unfold g_law_steps_are b_law_steps_are i1_law_steps_are
  obtain ⟨j, g1, _⟩ := forL_fold (tg := tgT [2, 3]) (body := l1_law_steps_are) (fun (_ : Unit) (x : Sl × Sl) => [.bo (stL ss), .bo (stL ss), x.1, x.2]) (fun s => D.tup [stD s, stD s]) (fun _ _ => ()) (fun _ => True) ss () (.un, .un) trivial fun s hs _ x _ => by
    refine ⟨_, rfl, (.sh (stD s), .sh (stD s)), ?_, trivial⟩
    have ok := okE_sd s
    unfold l1_law_steps_are i2_law_steps_are i3_law_steps_are
    unfold stD at ok ⊢
    simp (disch := first | omega | assumption) only [if_pos, if_neg, decide_eq_true, decide_eq_false, atI_of, cutL_take, cutL_drop, cutL_mid, ge_iff_le, gt_iff_lt, Int.reduceToNat, Int.toNat_zero, Int.toNat_one, Bool.not_true, Bool.not_false, szl, D.key, fDNew, fDGet, sDPutV, fDSet, fRg3, fChV, fSortL, frL, frS, fSortB, sRem, sqAt, eIxI, fItm, fItV, chS, sItC, sItA, sItI, sItS, fTmp, Sl.mut, Sl.th, O.d, sqD, D.atm, sTryR, fSq, aConsF, aNilF, eO, sTgF, setFd, Fd.sl, opJoinRev, fLRev, runDef, runDefI, ioAt, insA, chL, getO, setO, getL, setL, obAt, eFd, eFV, eFB, fFld, fMeth, fMethI, fMake, fCallI, aHere, fIsO, sFldS, setF, Rs.fd, Fd.d, O.d, fMethD, chF, sAppF, fPopF, fPop0, fPop1, sIns, sRetI, sRetNI, fZip, fML, opAny, opAll, opSorted, opMaxL, opMinL, opRfind, opCount, List.map_cons, List.map_nil, cInA, cNinA, inD, itD, fItA, eItA, cLtA, cLeA, fRr1, fRr2, opInt, sPar, fCallD, fRaise0, fRaise1, sTryAs, sTry, aftr, noX, allEq_const, fXf, fXi, fLc, lcL, unE, tYs, Vs.ret, xLock, inis, bof, sNil, sSeq, sAsg, sRet, sRetV, sRetN, sIf, sDrop, sTg, sFor, sBrk, sCnt, sApp, sExt, sOwn, sSetI, opSetI, sLock, unlk, sbnd, bnd, fOp, fCh, fCl, fCall, fLst, fTup, fSl, fIf, fAnd, fOr, fNot, fTru, fAndV, fOrV, fNotV, fNeg, fIsi, fM1, fM2, fRg1, fRg2, fEn, fRev, fSg, fTp, fIt, eIt, eB, eV, eC, frz, shm, aCons, aNil, poN, poS, Rs.d, Rs.sl, vB, List.cons_append, List.nil_append, List.append_nil, List.replicate_zero, List.replicate_succ, List.getElem?_cons_zero, List.getElem?_cons_succ, List.set_cons_zero, List.set_cons_succ, List.length_cons, List.length_nil, opLen, lenD, opList, opAdd, opSub, opMul, opMod, opDiv, opPow, opMin, opMax, opIx, opSl, cmpB, cEq, cNe, cIsN, cNotN, truD, tgN, tgT, setAll, isKd, opFind, opFind3, opStarts, opStarts3, Nat.reduceLT, Nat.reduceAdd, Nat.reduceSub, Nat.reduceLeDiff, Int.reduceLT, Int.reduceLE, Int.reduceNeg, reduceIte, and_self, true_and, and_true, decide_true, decide_false, Int.toNat_natCast, ok, eqv_self, g_law_whole, b_law_whole]
  have ez : zipL (stL ss) (stL ss) = ss.map fun s => D.tup [stD s, stD s] := by
    unfold zipL stL
    rw [List.zipWith_map]
    induction ss with
    | nil => rfl
    | cons s ss ih =>
      rw [List.zipWith_cons_cons, List.map_cons]
      congr 1
      clear ih h g1
      induction ss with
      | nil => rfl
      | cons t ss ih => rw [List.zipWith_cons_cons, List.map_cons, ih]
  have g1' : forL (tgT [2, 3]) l1_law_steps_are (zipL (stL ss) (stL ss)) [.bo (stL ss), .bo (stL ss), .un, .un] = some (.nx [.bo (stL ss), .bo (stL ss), j.1, j.2]) := by
    rw [ez]
    exact g1
  simp (disch := first | omega | assumption) only [if_pos, if_neg, decide_eq_true, decide_eq_false, atI_of, cutL_take, cutL_drop, cutL_mid, ge_iff_le, gt_iff_lt, Int.reduceToNat, Int.toNat_zero, Int.toNat_one, Bool.not_true, Bool.not_false, szl, D.key, fDNew, fDGet, sDPutV, fDSet, fRg3, fChV, fSortL, frL, frS, fSortB, sRem, sqAt, eIxI, fItm, fItV, chS, sItC, sItA, sItI, sItS, fTmp, Sl.mut, Sl.th, O.d, sqD, D.atm, sTryR, fSq, aConsF, aNilF, eO, sTgF, setFd, Fd.sl, opJoinRev, fLRev, runDef, runDefI, ioAt, insA, chL, getO, setO, getL, setL, obAt, eFd, eFV, eFB, fFld, fMeth, fMethI, fMake, fCallI, aHere, fIsO, sFldS, setF, Rs.fd, Fd.d, O.d, fMethD, chF, sAppF, fPopF, fPop0, fPop1, sIns, sRetI, sRetNI, fZip, fML, opAny, opAll, opSorted, opMaxL, opMinL, opRfind, opCount, List.map_cons, List.map_nil, cInA, cNinA, inD, itD, fItA, eItA, cLtA, cLeA, fRr1, fRr2, opInt, sPar, fCallD, fRaise0, fRaise1, sTryAs, sTry, aftr, noX, allEq_const, fXf, fXi, fLc, lcL, unE, tYs, Vs.ret, xLock, inis, bof, sNil, sSeq, sAsg, sRet, sRetV, sRetN, sIf, sDrop, sTg, sFor, sBrk, sCnt, sApp, sExt, sOwn, sSetI, opSetI, sLock, unlk, sbnd, bnd, fOp, fCh, fCl, fCall, fLst, fTup, fSl, fIf, fAnd, fOr, fNot, fTru, fAndV, fOrV, fNotV, fNeg, fIsi, fM1, fM2, fRg1, fRg2, fEn, fRev, fSg, fTp, fIt, eIt, eB, eV, eC, frz, shm, aCons, aNil, poN, poS, Rs.d, Rs.sl, vB, List.cons_append, List.nil_append, List.append_nil, List.replicate_zero, List.replicate_succ, List.getElem?_cons_zero, List.getElem?_cons_succ, List.set_cons_zero, List.set_cons_succ, List.length_cons, List.length_nil, opLen, lenD, opList, opAdd, opSub, opMul, opMod, opDiv, opPow, opMin, opMax, opIx, opSl, cmpB, cEq, cNe, cIsN, cNotN, truD, tgN, tgT, setAll, isKd, opFind, opFind3, opStarts, opStarts3, Nat.reduceLT, Nat.reduceAdd, Nat.reduceSub, Nat.reduceLeDiff, Int.reduceLT, Int.reduceLE, Int.reduceNeg, reduceIte, and_self, true_and, and_true, decide_true, decide_false, Int.toNat_natCast, stL_len, itD, g1']

/-! ''.join of texts -/
theorem join_eqS (y : Str) (parts : List Str) : Txt.join y parts = Str.join y parts := StrLaws.glued_eq_join y parts
theorem join_nil : ∀ ws : List (List Nat), (Txt.join (S []) (ws.map S)).cps.toList = ws.flatten
  | [] => by
    rw [join_eqS]
    rfl
  | [w] => by
    rw [join_eqS]
    show (S w).cps.toList = _
    rw [List.flatten_cons, List.flatten_nil, List.append_nil]
    rfl
  | w :: v :: ws => by
    have ih := join_nil (v :: ws)
    rw [join_eqS] at ih ⊢
    show (S w ++ S [] ++ Str.join (S []) ((v :: ws).map S)).cps.toList = _
    have e : ∀ x y : Str, (x ++ y).cps.toList = x.cps.toList ++ y.cps.toList := fun x y => by
      show (x.cps ++ y.cps).toList = _
      rw [Array.toList_append]
    rw [e, e, ih]
    show w ++ [] ++ (v :: ws).flatten = (w :: v :: ws).flatten
    rw [List.append_nil]
    rfl
theorem allStrs_map : ∀ ws : List (List Nat), allStrs (ws.map D.str) = some ws
  | [] => rfl
  | w :: ws => by
    show (match allStrs (ws.map D.str) with | some r => some (w :: r) | none => none) = _
    rw [allStrs_map ws]
theorem opJoin_nil {ws : List (List Nat)} (h : (ws.map List.length).sum ≤ 1000000) : opJoin [] (.lst (ws.map D.str)) = some (.sh (.str ws.flatten)) := by
  unfold opJoin
  dsimp only
  rw [allStrs_map]
  dsimp only
  rw [if_pos (by show _ + ws.length * 0 ≤ 1000000; omega), join_nil]

theorem e_letters (c : Int) (most : Nat) (h1 : 1 ≤ most) (h2 : most ≤ 20) : ∃ L, g_law_letters [.int c, .int (most : Int)] = some (.rt (.sh (.str L))) ∧ 1 ≤ L.length ∧ L.length ≤ most ∧ ∀ x ∈ L, x ≤ 122 := by
  obtain ⟨Mo, hMo⟩ : ∃ Mo : Int, Mo = (most : Int) := ⟨_, rfl⟩
  rw [← hMo]
  unfold g_law_letters b_law_letters
  have p1 := Int.emod_nonneg c (show Mo ≠ 0 by omega)
  have p2 := Int.emod_lt_of_pos c (show (0 : Int) < Mo by omega)
  obtain ⟨m, hm, hm1, hm2⟩ : ∃ m : Nat, 1 + c % Mo = (m : Int) ∧ 1 ≤ m ∧ m ≤ most := ⟨(1 + c % Mo).toNat, by omega, by omega, by omega⟩
  obtain ⟨st, hst⟩ : ∃ st, st = c / Mo % 26 := ⟨_, rfl⟩
  obtain ⟨ap, hap⟩ : ∃ ap, ap = 1 + 2 * (c / 157 % 6) := ⟨_, rfl⟩
  have hap0 : 0 ≤ ap ∧ ap ≤ 11 := by omega
  have b0 : Builtin.Int.intBits 2 + Builtin.Int.intBits (c / 157 % 6) ≤ 134217728 := by
    have h1 : Builtin.Int.intBits (c / 157 % 6) ≤ 32 := PyProof.Rows.intBits_le (show (c / 157 % 6).natAbs < 2 ^ 32 by omega)
    have h2 : Builtin.Int.intBits 2 ≤ 100 := by decide
    omega
  obtain ⟨A, hA⟩ : ∃ A : List Nat, A = [97, 98, 99, 100, 101, 102, 103, 104, 105, 106, 107, 108, 109, 110, 111, 112, 113, 114, 115, 116, 117, 118, 119, 120, 121, 122] := ⟨_, rfl⟩
  have hAl : A.length = 26 := by rw [hA]; rfl
  have hAm : ∀ x ∈ A, x ≤ 122 := by rw [hA]; decide
  rw [← hA]
  obtain ⟨j, f1⟩ := lcL_fun (f := tgN 6) (te := fOp opIx (eB 2) (frz (fOp opMod (frz (fOp opAdd (eB 4) (frz (fOp opMul (eB 5) (eB 6))))) (eC (.int 26))))) (vs := [6]) (fun (_ : Unit) => [.sh (.int c), .sh (.int Mo), .sh (.str A), .sh (.int (m : Int)), .sh (.int st), .sh (.int ap), .un]) (fun (k : Nat) => D.int (0 + (k : Int))) (fun k => D.str [A.getD ((st + ap * (k : Int)) % 26).toNat 0]) (List.range m) [] () fun k hk _ => by
    have hk := List.mem_range.mp hk
    have e0 : (0 : Int) + (k : Int) = (k : Int) := by omega
    have b1 : Builtin.Int.intBits ap + Builtin.Int.intBits (k : Int) ≤ 134217728 := by
      have h1 : Builtin.Int.intBits ap ≤ 32 := PyProof.Rows.intBits_le (show ap.natAbs < 2 ^ 32 by omega)
      have h2 : Builtin.Int.intBits (k : Int) ≤ 32 := PyProof.Rows.intBits_le (show (k : Int).natAbs < 2 ^ 32 by omega)
      omega
    have q1 := Int.emod_nonneg (st + ap * (k : Int)) (show (26 : Int) ≠ 0 by decide)
    have q2 := Int.emod_lt_of_pos (st + ap * (k : Int)) (show (0 : Int) < 26 by decide)
    have hi : ((st + ap * (k : Int)) % 26).toNat < A.length := by omega
    have hg : A.getD ((st + ap * (k : Int)) % 26).toNat 0 = A[((st + ap * (k : Int)) % 26).toNat] := by rw [List.getD_eq_getElem?_getD, List.getElem?_eq_getElem hi]; rfl
    refine ⟨_, rfl, [.sh (.int c), .sh (.int Mo), .sh (.str A), .sh (.int (m : Int)), .sh (.int st), .sh (.int ap), .sh (.int (k : Int))], ?_, (), rfl⟩
    simp (disch := first | omega | assumption) only [if_pos, if_neg, decide_eq_true, decide_eq_false, atI_of, cutL_take, cutL_drop, cutL_mid, ge_iff_le, gt_iff_lt, Int.reduceToNat, Int.toNat_zero, Int.toNat_one, Bool.not_true, Bool.not_false, szl, D.key, fDNew, fDGet, sDPutV, fDSet, fRg3, fChV, fSortL, frL, frS, fSortB, sRem, sqAt, eIxI, fItm, fItV, chS, sItC, sItA, sItI, sItS, fTmp, Sl.mut, Sl.th, O.d, sqD, D.atm, sTryR, fSq, aConsF, aNilF, eO, sTgF, setFd, Fd.sl, opJoinRev, fLRev, runDef, runDefI, ioAt, insA, chL, getO, setO, getL, setL, obAt, eFd, eFV, eFB, fFld, fMeth, fMethI, fMake, fCallI, aHere, fIsO, sFldS, setF, Rs.fd, Fd.d, O.d, fMethD, chF, sAppF, fPopF, fPop0, fPop1, sIns, sRetI, sRetNI, fZip, fML, opAny, opAll, opSorted, opMaxL, opMinL, opRfind, opCount, List.map_cons, List.map_nil, cInA, cNinA, inD, itD, fItA, eItA, cLtA, cLeA, fRr1, fRr2, opInt, sPar, fCallD, fRaise0, fRaise1, sTryAs, sTry, aftr, noX, allEq_const, fXf, fXi, fLc, lcL, unE, tYs, Vs.ret, xLock, inis, bof, sNil, sSeq, sAsg, sRet, sRetV, sRetN, sIf, sDrop, sTg, sFor, sBrk, sCnt, sApp, sExt, sOwn, sSetI, opSetI, sLock, unlk, sbnd, bnd, fOp, fCh, fCl, fCall, fLst, fTup, fSl, fIf, fAnd, fOr, fNot, fTru, fAndV, fOrV, fNotV, fNeg, fIsi, fM1, fM2, fRg1, fRg2, fEn, fRev, fSg, fTp, fIt, eIt, eB, eV, eC, frz, shm, aCons, aNil, poN, poS, Rs.d, Rs.sl, vB, List.cons_append, List.nil_append, List.append_nil, List.replicate_zero, List.replicate_succ, List.getElem?_cons_zero, List.getElem?_cons_succ, List.set_cons_zero, List.set_cons_succ, List.length_cons, List.length_nil, opLen, lenD, opList, opAdd, opSub, opMul, opMod, opDiv, opPow, opMin, opMax, opIx, opSl, cmpB, cEq, cNe, cIsN, cNotN, truD, tgN, tgT, setAll, isKd, opFind, opFind3, opStarts, opStarts3, Nat.reduceLT, Nat.reduceAdd, Nat.reduceSub, Nat.reduceLeDiff, Int.reduceLT, Int.reduceLE, Int.reduceNeg, reduceIte, and_self, true_and, and_true, decide_true, decide_false, Int.toNat_natCast, e0, List.getElem?_eq_getElem hi, hg]
  obtain ⟨ws, hws⟩ : ∃ ws : List (List Nat), ws = (List.range m).map fun (k : Nat) => [A.getD ((st + ap * (k : Int)) % 26).toNat 0] := ⟨_, rfl⟩
  have f1' : lcL (tgN 6) tYs (fOp opIx (eB 2) (frz (fOp opMod (frz (fOp opAdd (eB 4) (frz (fOp opMul (eB 5) (eB 6))))) (eC (.int 26))))) [6] (rng 0 m) [] [.sh (.int c), .sh (.int Mo), .sh (.str A), .sh (.int (m : Int)), .sh (.int st), .sh (.int ap), .un] = some (.ok (.ow (ws.map D.str)) [.sh (.int c), .sh (.int Mo), .sh (.str A), .sh (.int (m : Int)), .sh (.int st), .sh (.int ap), .un]) := by
    rw [hws, List.map_map]
    exact f1
  have hone : ∀ v ∈ ws, ∃ x, v = [x] ∧ x ≤ 122 := fun v hv => by
    rw [hws] at hv
    obtain ⟨k, _, rfl⟩ := List.mem_map.mp hv
    refine ⟨_, rfl, ?_⟩
    have q1 := Int.emod_nonneg (st + ap * (k : Int)) (show (26 : Int) ≠ 0 by decide)
    have q2 := Int.emod_lt_of_pos (st + ap * (k : Int)) (show (0 : Int) < 26 by decide)
    have hi : ((st + ap * (k : Int)) % 26).toNat < A.length := by omega
    rw [List.getD_eq_getElem?_getD, List.getElem?_eq_getElem hi]
    exact hAm _ (List.getElem_mem hi)
  have hwl : ws.length = m := by rw [hws, List.length_map, List.length_range]
  have hfl : ∀ ws : List (List Nat), (∀ v ∈ ws, ∃ x, v = [x] ∧ x ≤ 122) → ws.flatten.length = ws.length ∧ (ws.map List.length).sum = ws.length ∧ ∀ x ∈ ws.flatten, x ≤ 122 := fun ws => by
    induction ws with
    | nil => intro _; exact ⟨rfl, rfl, fun x h => nomatch h⟩
    | cons v ws ih =>
      intro h
      obtain ⟨i1, i2, i3⟩ := ih fun u hu => h u (List.mem_cons_of_mem _ hu)
      obtain ⟨x, rfl, hx⟩ := h v List.mem_cons_self
      refine ⟨?_, ?_, fun y hy => ?_⟩
      · rw [List.flatten_cons, List.length_append, i1, List.length_cons, List.length_cons, List.length_nil]
        omega
      · rw [List.map_cons, List.sum_cons, i2, List.length_cons, List.length_cons, List.length_nil]
        omega
      · rw [List.flatten_cons] at hy
        rcases List.mem_append.mp hy with hy | hy
        · rw [List.mem_singleton.mp hy]; exact hx
        · exact i3 y hy
  obtain ⟨i1, i2, i3⟩ := hfl ws hone
  have hj := opJoin_nil (ws := ws) (by omega)
  refine ⟨ws.flatten, ?_, by omega, by omega, i3⟩
  simp (disch := first | omega | assumption) only [if_pos, if_neg, decide_eq_true, decide_eq_false, atI_of, cutL_take, cutL_drop, cutL_mid, ge_iff_le, gt_iff_lt, Int.reduceToNat, Int.toNat_zero, Int.toNat_one, Bool.not_true, Bool.not_false, szl, D.key, fDNew, fDGet, sDPutV, fDSet, fRg3, fChV, fSortL, frL, frS, fSortB, sRem, sqAt, eIxI, fItm, fItV, chS, sItC, sItA, sItI, sItS, fTmp, Sl.mut, Sl.th, O.d, sqD, D.atm, sTryR, fSq, aConsF, aNilF, eO, sTgF, setFd, Fd.sl, opJoinRev, fLRev, runDef, runDefI, ioAt, insA, chL, getO, setO, getL, setL, obAt, eFd, eFV, eFB, fFld, fMeth, fMethI, fMake, fCallI, aHere, fIsO, sFldS, setF, Rs.fd, Fd.d, O.d, fMethD, chF, sAppF, fPopF, fPop0, fPop1, sIns, sRetI, sRetNI, fZip, fML, opAny, opAll, opSorted, opMaxL, opMinL, opRfind, opCount, List.map_cons, List.map_nil, cInA, cNinA, inD, itD, fItA, eItA, cLtA, cLeA, fRr1, fRr2, opInt, sPar, fCallD, fRaise0, fRaise1, sTryAs, sTry, aftr, noX, allEq_const, fXf, fXi, fLc, lcL, unE, tYs, Vs.ret, xLock, inis, bof, sNil, sSeq, sAsg, sRet, sRetV, sRetN, sIf, sDrop, sTg, sFor, sBrk, sCnt, sApp, sExt, sOwn, sSetI, opSetI, sLock, unlk, sbnd, bnd, fOp, fCh, fCl, fCall, fLst, fTup, fSl, fIf, fAnd, fOr, fNot, fTru, fAndV, fOrV, fNotV, fNeg, fIsi, fM1, fM2, fRg1, fRg2, fEn, fRev, fSg, fTp, fIt, eIt, eB, eV, eC, frz, shm, aCons, aNil, poN, poS, Rs.d, Rs.sl, vB, List.cons_append, List.nil_append, List.append_nil, List.replicate_zero, List.replicate_succ, List.getElem?_cons_zero, List.getElem?_cons_succ, List.set_cons_zero, List.set_cons_succ, List.length_cons, List.length_nil, opLen, lenD, opList, opAdd, opSub, opMul, opMod, opDiv, opPow, opMin, opMax, opIx, opSl, cmpB, cEq, cNe, cIsN, cNotN, truD, tgN, tgT, setAll, isKd, opFind, opFind3, opStarts, opStarts3, Nat.reduceLT, Nat.reduceAdd, Nat.reduceSub, Nat.reduceLeDiff, Int.reduceLT, Int.reduceLE, Int.reduceNeg, reduceIte, and_self, true_and, and_true, decide_true, decide_false, Int.toNat_natCast] at f1'
  simp (disch := first | omega | assumption) only [if_pos, if_neg, decide_eq_true, decide_eq_false, atI_of, cutL_take, cutL_drop, cutL_mid, ge_iff_le, gt_iff_lt, Int.reduceToNat, Int.toNat_zero, Int.toNat_one, Bool.not_true, Bool.not_false, szl, D.key, fDNew, fDGet, sDPutV, fDSet, fRg3, fChV, fSortL, frL, frS, fSortB, sRem, sqAt, eIxI, fItm, fItV, chS, sItC, sItA, sItI, sItS, fTmp, Sl.mut, Sl.th, O.d, sqD, D.atm, sTryR, fSq, aConsF, aNilF, eO, sTgF, setFd, Fd.sl, opJoinRev, fLRev, runDef, runDefI, ioAt, insA, chL, getO, setO, getL, setL, obAt, eFd, eFV, eFB, fFld, fMeth, fMethI, fMake, fCallI, aHere, fIsO, sFldS, setF, Rs.fd, Fd.d, O.d, fMethD, chF, sAppF, fPopF, fPop0, fPop1, sIns, sRetI, sRetNI, fZip, fML, opAny, opAll, opSorted, opMaxL, opMinL, opRfind, opCount, List.map_cons, List.map_nil, cInA, cNinA, inD, itD, fItA, eItA, cLtA, cLeA, fRr1, fRr2, opInt, sPar, fCallD, fRaise0, fRaise1, sTryAs, sTry, aftr, noX, allEq_const, fXf, fXi, fLc, lcL, unE, tYs, Vs.ret, xLock, inis, bof, sNil, sSeq, sAsg, sRet, sRetV, sRetN, sIf, sDrop, sTg, sFor, sBrk, sCnt, sApp, sExt, sOwn, sSetI, opSetI, sLock, unlk, sbnd, bnd, fOp, fCh, fCl, fCall, fLst, fTup, fSl, fIf, fAnd, fOr, fNot, fTru, fAndV, fOrV, fNotV, fNeg, fIsi, fM1, fM2, fRg1, fRg2, fEn, fRev, fSg, fTp, fIt, eIt, eB, eV, eC, frz, shm, aCons, aNil, poN, poS, Rs.d, Rs.sl, vB, List.cons_append, List.nil_append, List.append_nil, List.replicate_zero, List.replicate_succ, List.getElem?_cons_zero, List.getElem?_cons_succ, List.set_cons_zero, List.set_cons_succ, List.length_cons, List.length_nil, opLen, lenD, opList, opAdd, opSub, opMul, opMod, opDiv, opPow, opMin, opMax, opIx, opSl, cmpB, cEq, cNe, cIsN, cNotN, truD, tgN, tgT, setAll, isKd, opFind, opFind3, opStarts, opStarts3, Nat.reduceLT, Nat.reduceAdd, Nat.reduceSub, Nat.reduceLeDiff, Int.reduceLT, Int.reduceLE, Int.reduceNeg, reduceIte, and_self, true_and, and_true, decide_true, decide_false, Int.toNat_natCast, hm, ← hst, ← hap, rng_len, f1', hj]

/-! parts of chains and their words, plainly -/
theorem vld_cut {ps : Pct} : ∀ (k : Nat) (ss : List Stp) (w : List Nat), Vld ps w ss → Vld ps w (ss.take k) ∧ Vld ps (endW ps w (ss.take k)) (ss.drop k)
  | 0, ss, w, h => ⟨trivial, h⟩
  | k + 1, [], w, h => ⟨trivial, trivial⟩
  | k + 1, s :: ss, w, ⟨h1, h2⟩ => by
    obtain ⟨g1, g2⟩ := vld_cut k ss _ h2
    exact ⟨⟨h1, g1⟩, g2⟩
theorem wds_take (ps : Pct) : ∀ (k : Nat) (ss : List Stp) (w : List Nat), wds ps w (ss.take k) = (wds ps w ss).take (k + 1)
  | 0, ss, w => by cases ss <;> rfl
  | k + 1, [], w => by simp [wds]
  | k + 1, s :: ss, w => by
    rw [List.take_succ_cons, wds, wds, List.take_succ_cons, wds_take ps k ss]
theorem wds_drop (ps : Pct) : ∀ (k : Nat) (ss : List Stp) (w : List Nat), k ≤ ss.length → wds ps (endW ps w (ss.take k)) (ss.drop k) = (wds ps w ss).drop k
  | 0, ss, w, _ => rfl
  | k + 1, [], w, h => absurd h (Nat.not_succ_le_zero _)
  | k + 1, s :: ss, w, h => by
    rw [List.drop_succ_cons, wds, List.drop_succ_cons]
    exact wds_drop ps k ss (usedW ps w s) (by simpa using h)
theorem wds_at (ps : Pct) (k : Nat) (ss : List Stp) (w : List Nat) (h : k ≤ ss.length) : (wds ps w ss)[k]? = some (endW ps w (ss.take k)) := by
  have e := wds_last ps (ss.take k) w
  rw [wds_take, List.length_take, Nat.min_eq_left h, List.getElem?_take_of_lt (Nat.lt_succ_self k)] at e
  exact e
theorem wds_back {ps : Pct} : ∀ (ss : List Stp) (w : List Nat), Vld ps w ss → wds ps (endW ps w ss) (backL ss) = (wds ps w ss).reverse
  | [], w, _ => rfl
  | s :: ss, w, ⟨h1, h2⟩ => by
    obtain ⟨x, y, e1, e2, e3⟩ := fit_split h1
    obtain ⟨f1, f2⟩ := fit_of (ps := ps) (s := flS s) (x := x) (y := y) h1.n e2
    rw [(old_fl ps s).1, ← e3] at f1 f2
    rw [(old_fl ps s).2, ← e1] at f2
    have eb : backL (s :: ss) = backL ss ++ [flS s] := by
      unfold backL
      rw [List.map_cons, List.reverse_cons]
    have g2 := (vld_back ss _ h2).2
    rw [eb, wds_snoc]
    show wds ps (endW ps (usedW ps w s) ss) (backL ss) ++ [usedW ps (endW ps (endW ps (usedW ps w s) ss) (backL ss)) (flS s)] = _
    rw [wds_back ss _ h2, g2, f2, wds, List.reverse_cons]
theorem wds_mv {ps : Pct} (a b : List Nat) : ∀ (ss : List Stp) (w : List Nat), Vld ps w ss → wds ps (a ++ w ++ b) (ss.map (mvS a.length)) = (wds ps w ss).map fun v => a ++ v ++ b
  | [], w, _ => rfl
  | s :: ss, w, ⟨h1, h2⟩ => by
    have hv := (vld_mv a b [s] w ⟨h1, trivial⟩).2
    have hv' : usedW ps (a ++ w ++ b) (mvS a.length s) = a ++ usedW ps w s ++ b := hv
    rw [List.map_cons, wds, wds, List.map_cons, hv', wds_mv a b ss _ h2]
theorem wds_in {ps : Pct} {L : List Nat} (hp : ∀ p ∈ ps, (∀ c ∈ p.1, c ∈ L) ∧ ∀ c ∈ p.2, c ∈ L) : ∀ (ss : List Stp) (w : List Nat), Vld ps w ss → (∀ c ∈ w, c ∈ L) → ∀ v ∈ wds ps w ss, ∀ c ∈ v, c ∈ L
  | [], w, _, hw, v, hv => by
    rw [List.mem_singleton.mp hv]
    exact hw
  | s :: ss, w, ⟨h1, h2⟩, hw, v, hv => by
    have hu : ∀ c ∈ usedW ps w s, c ∈ L := fun c hc => by
      obtain ⟨x, y, e1, _, e3⟩ := fit_split h1
      have hm : ps.getD s.n ([], []) ∈ ps := by
        rw [List.getD_eq_getElem?_getD, List.getElem?_eq_getElem h1.n]
        exact List.getElem_mem h1.n
      rw [e3] at hc
      rw [e1] at hw
      simp only [List.mem_append] at hc hw
      rcases hc with (hc | hc) | hc
      · exact hw c (.inl (.inl hc))
      · unfold newS at hc
        split at hc
        · exact (hp _ hm).2 c hc
        · exact (hp _ hm).1 c hc
      · exact hw c (.inr hc)
    rw [wds] at hv
    rcases List.mem_cons.mp hv with rfl | hv
    · exact hw
    · exact wds_in hp ss _ h2 hu v hv

/-! a chain as an object -/
def chob (ps : Pct) (w : List Nat) (ss : List Stp) : D := .ob 0 [.lst (pctD ps), .lst (stL ss), .lst (strD (wds ps w ss))]
structure ChOk (ps : Pct) (w : List Nat) (ss : List Stp) : Prop where
  sz : SzP ps
  B : ∀ p ∈ ps, p.1.length ≤ 3 ∧ p.2.length ≤ 3
  v : Vld ps w ss
  l : w.length + 3 * ss.length ≤ 1000
theorem e_Chain_init {ps : Pct} {w : List Nat} {ss : List Stp} (h : ChOk ps w ss) : g_Chain_init (.ob 0 []) [.lst (pctD ps), .str w, .lst (stL ss)] = some (.rt (.sh .non) (.ob 0 [.sh (.lst (pctD ps)), .sh (.lst (stL ss)), .sh (.lst (strD (wds ps w ss)))])) := by
  have hw := e_walked h.sz h.B h.v h.l (by have := h.l; omega)
  unfold g_Chain_init b_Chain_init
  simp (disch := first | omega | assumption) only [if_pos, if_neg, decide_eq_true, decide_eq_false, atI_of, cutL_take, cutL_drop, cutL_mid, ge_iff_le, gt_iff_lt, Int.reduceToNat, Int.toNat_zero, Int.toNat_one, Bool.not_true, Bool.not_false, szl, D.key, fDNew, fDGet, sDPutV, fDSet, fRg3, fChV, fSortL, frL, frS, fSortB, sRem, sqAt, eIxI, fItm, fItV, chS, sItC, sItA, sItI, sItS, fTmp, Sl.mut, Sl.th, O.d, sqD, D.atm, sTryR, fSq, aConsF, aNilF, eO, sTgF, setFd, Fd.sl, opJoinRev, fLRev, runDef, runDefI, ioAt, insA, chL, getO, setO, getL, setL, obAt, eFd, eFV, eFB, fFld, fMeth, fMethI, fMake, fCallI, aHere, fIsO, sFldS, setF, Rs.fd, Fd.d, O.d, fMethD, chF, sAppF, fPopF, fPop0, fPop1, sIns, sRetI, sRetNI, fZip, fML, opAny, opAll, opSorted, opMaxL, opMinL, opRfind, opCount, List.map_cons, List.map_nil, cInA, cNinA, inD, itD, fItA, eItA, cLtA, cLeA, fRr1, fRr2, opInt, sPar, fCallD, fRaise0, fRaise1, sTryAs, sTry, aftr, noX, allEq_const, fXf, fXi, fLc, lcL, unE, tYs, Vs.ret, xLock, inis, bof, sNil, sSeq, sAsg, sRet, sRetV, sRetN, sIf, sDrop, sTg, sFor, sBrk, sCnt, sApp, sExt, sOwn, sSetI, opSetI, sLock, unlk, sbnd, bnd, fOp, fCh, fCl, fCall, fLst, fTup, fSl, fIf, fAnd, fOr, fNot, fTru, fAndV, fOrV, fNotV, fNeg, fIsi, fM1, fM2, fRg1, fRg2, fEn, fRev, fSg, fTp, fIt, eIt, eB, eV, eC, frz, shm, aCons, aNil, poN, poS, Rs.d, Rs.sl, vB, List.cons_append, List.nil_append, List.append_nil, List.replicate_zero, List.replicate_succ, List.getElem?_cons_zero, List.getElem?_cons_succ, List.set_cons_zero, List.set_cons_succ, List.length_cons, List.length_nil, opLen, lenD, opList, opAdd, opSub, opMul, opMod, opDiv, opPow, opMin, opMax, opIx, opSl, cmpB, cEq, cNe, cIsN, cNotN, truD, tgN, tgT, setAll, isKd, opFind, opFind3, opStarts, opStarts3, Nat.reduceLT, Nat.reduceAdd, Nat.reduceSub, Nat.reduceLeDiff, Int.reduceLT, Int.reduceLE, Int.reduceNeg, reduceIte, and_self, true_and, and_true, decide_true, decide_false, Int.toNat_natCast, fld_pacts, fld_steps, fld_words, hw]
theorem e_first {ps : Pct} {w : List Nat} {ss : List Stp} : g_Chain_first [chob ps w ss] = some (.rt (.sh (.str w))) := by
  unfold g_Chain_first b_Chain_first chob
  simp (disch := first | omega | assumption) only [if_pos, if_neg, decide_eq_true, decide_eq_false, atI_of, cutL_take, cutL_drop, cutL_mid, ge_iff_le, gt_iff_lt, Int.reduceToNat, Int.toNat_zero, Int.toNat_one, Bool.not_true, Bool.not_false, szl, D.key, fDNew, fDGet, sDPutV, fDSet, fRg3, fChV, fSortL, frL, frS, fSortB, sRem, sqAt, eIxI, fItm, fItV, chS, sItC, sItA, sItI, sItS, fTmp, Sl.mut, Sl.th, O.d, sqD, D.atm, sTryR, fSq, aConsF, aNilF, eO, sTgF, setFd, Fd.sl, opJoinRev, fLRev, runDef, runDefI, ioAt, insA, chL, getO, setO, getL, setL, obAt, eFd, eFV, eFB, fFld, fMeth, fMethI, fMake, fCallI, aHere, fIsO, sFldS, setF, Rs.fd, Fd.d, O.d, fMethD, chF, sAppF, fPopF, fPop0, fPop1, sIns, sRetI, sRetNI, fZip, fML, opAny, opAll, opSorted, opMaxL, opMinL, opRfind, opCount, List.map_cons, List.map_nil, cInA, cNinA, inD, itD, fItA, eItA, cLtA, cLeA, fRr1, fRr2, opInt, sPar, fCallD, fRaise0, fRaise1, sTryAs, sTry, aftr, noX, allEq_const, fXf, fXi, fLc, lcL, unE, tYs, Vs.ret, xLock, inis, bof, sNil, sSeq, sAsg, sRet, sRetV, sRetN, sIf, sDrop, sTg, sFor, sBrk, sCnt, sApp, sExt, sOwn, sSetI, opSetI, sLock, unlk, sbnd, bnd, fOp, fCh, fCl, fCall, fLst, fTup, fSl, fIf, fAnd, fOr, fNot, fTru, fAndV, fOrV, fNotV, fNeg, fIsi, fM1, fM2, fRg1, fRg2, fEn, fRev, fSg, fTp, fIt, eIt, eB, eV, eC, frz, shm, aCons, aNil, poN, poS, Rs.d, Rs.sl, vB, List.cons_append, List.nil_append, List.append_nil, List.replicate_zero, List.replicate_succ, List.getElem?_cons_zero, List.getElem?_cons_succ, List.set_cons_zero, List.set_cons_succ, List.length_cons, List.length_nil, opLen, lenD, opList, opAdd, opSub, opMul, opMod, opDiv, opPow, opMin, opMax, opIx, opSl, cmpB, cEq, cNe, cIsN, cNotN, truD, tgN, tgT, setAll, isKd, opFind, opFind3, opStarts, opStarts3, Nat.reduceLT, Nat.reduceAdd, Nat.reduceSub, Nat.reduceLeDiff, Int.reduceLT, Int.reduceLE, Int.reduceNeg, reduceIte, and_self, true_and, and_true, decide_true, decide_false, Int.toNat_natCast, fld_words, str_first]
theorem e_last {ps : Pct} {w : List Nat} {ss : List Stp} : g_Chain_last [chob ps w ss] = some (.rt (.sh (.str (endW ps w ss)))) := by
  unfold g_Chain_last b_Chain_last chob
  simp (disch := first | omega | assumption) only [if_pos, if_neg, decide_eq_true, decide_eq_false, atI_of, cutL_take, cutL_drop, cutL_mid, ge_iff_le, gt_iff_lt, Int.reduceToNat, Int.toNat_zero, Int.toNat_one, Bool.not_true, Bool.not_false, szl, D.key, fDNew, fDGet, sDPutV, fDSet, fRg3, fChV, fSortL, frL, frS, fSortB, sRem, sqAt, eIxI, fItm, fItV, chS, sItC, sItA, sItI, sItS, fTmp, Sl.mut, Sl.th, O.d, sqD, D.atm, sTryR, fSq, aConsF, aNilF, eO, sTgF, setFd, Fd.sl, opJoinRev, fLRev, runDef, runDefI, ioAt, insA, chL, getO, setO, getL, setL, obAt, eFd, eFV, eFB, fFld, fMeth, fMethI, fMake, fCallI, aHere, fIsO, sFldS, setF, Rs.fd, Fd.d, O.d, fMethD, chF, sAppF, fPopF, fPop0, fPop1, sIns, sRetI, sRetNI, fZip, fML, opAny, opAll, opSorted, opMaxL, opMinL, opRfind, opCount, List.map_cons, List.map_nil, cInA, cNinA, inD, itD, fItA, eItA, cLtA, cLeA, fRr1, fRr2, opInt, sPar, fCallD, fRaise0, fRaise1, sTryAs, sTry, aftr, noX, allEq_const, fXf, fXi, fLc, lcL, unE, tYs, Vs.ret, xLock, inis, bof, sNil, sSeq, sAsg, sRet, sRetV, sRetN, sIf, sDrop, sTg, sFor, sBrk, sCnt, sApp, sExt, sOwn, sSetI, opSetI, sLock, unlk, sbnd, bnd, fOp, fCh, fCl, fCall, fLst, fTup, fSl, fIf, fAnd, fOr, fNot, fTru, fAndV, fOrV, fNotV, fNeg, fIsi, fM1, fM2, fRg1, fRg2, fEn, fRev, fSg, fTp, fIt, eIt, eB, eV, eC, frz, shm, aCons, aNil, poN, poS, Rs.d, Rs.sl, vB, List.cons_append, List.nil_append, List.append_nil, List.replicate_zero, List.replicate_succ, List.getElem?_cons_zero, List.getElem?_cons_succ, List.set_cons_zero, List.set_cons_succ, List.length_cons, List.length_nil, opLen, lenD, opList, opAdd, opSub, opMul, opMod, opDiv, opPow, opMin, opMax, opIx, opSl, cmpB, cEq, cNe, cIsN, cNotN, truD, tgN, tgT, setAll, isKd, opFind, opFind3, opStarts, opStarts3, Nat.reduceLT, Nat.reduceAdd, Nat.reduceSub, Nat.reduceLeDiff, Int.reduceLT, Int.reduceLE, Int.reduceNeg, reduceIte, and_self, true_and, and_true, decide_true, decide_false, Int.toNat_natCast, fld_words, str_last]
theorem e_steps_told {ps : Pct} {w : List Nat} {ss : List Stp} : g_Chain_steps_told [chob ps w ss] = some (.rt (.ow (stL ss))) := by
  unfold g_Chain_steps_told b_Chain_steps_told chob
  simp (disch := first | omega | assumption) only [if_pos, if_neg, decide_eq_true, decide_eq_false, atI_of, cutL_take, cutL_drop, cutL_mid, ge_iff_le, gt_iff_lt, Int.reduceToNat, Int.toNat_zero, Int.toNat_one, Bool.not_true, Bool.not_false, szl, D.key, fDNew, fDGet, sDPutV, fDSet, fRg3, fChV, fSortL, frL, frS, fSortB, sRem, sqAt, eIxI, fItm, fItV, chS, sItC, sItA, sItI, sItS, fTmp, Sl.mut, Sl.th, O.d, sqD, D.atm, sTryR, fSq, aConsF, aNilF, eO, sTgF, setFd, Fd.sl, opJoinRev, fLRev, runDef, runDefI, ioAt, insA, chL, getO, setO, getL, setL, obAt, eFd, eFV, eFB, fFld, fMeth, fMethI, fMake, fCallI, aHere, fIsO, sFldS, setF, Rs.fd, Fd.d, O.d, fMethD, chF, sAppF, fPopF, fPop0, fPop1, sIns, sRetI, sRetNI, fZip, fML, opAny, opAll, opSorted, opMaxL, opMinL, opRfind, opCount, List.map_cons, List.map_nil, cInA, cNinA, inD, itD, fItA, eItA, cLtA, cLeA, fRr1, fRr2, opInt, sPar, fCallD, fRaise0, fRaise1, sTryAs, sTry, aftr, noX, allEq_const, fXf, fXi, fLc, lcL, unE, tYs, Vs.ret, xLock, inis, bof, sNil, sSeq, sAsg, sRet, sRetV, sRetN, sIf, sDrop, sTg, sFor, sBrk, sCnt, sApp, sExt, sOwn, sSetI, opSetI, sLock, unlk, sbnd, bnd, fOp, fCh, fCl, fCall, fLst, fTup, fSl, fIf, fAnd, fOr, fNot, fTru, fAndV, fOrV, fNotV, fNeg, fIsi, fM1, fM2, fRg1, fRg2, fEn, fRev, fSg, fTp, fIt, eIt, eB, eV, eC, frz, shm, aCons, aNil, poN, poS, Rs.d, Rs.sl, vB, List.cons_append, List.nil_append, List.append_nil, List.replicate_zero, List.replicate_succ, List.getElem?_cons_zero, List.getElem?_cons_succ, List.set_cons_zero, List.set_cons_succ, List.length_cons, List.length_nil, opLen, lenD, opList, opAdd, opSub, opMul, opMod, opDiv, opPow, opMin, opMax, opIx, opSl, cmpB, cEq, cNe, cIsN, cNotN, truD, tgN, tgT, setAll, isKd, opFind, opFind3, opStarts, opStarts3, Nat.reduceLT, Nat.reduceAdd, Nat.reduceSub, Nat.reduceLeDiff, Int.reduceLT, Int.reduceLE, Int.reduceNeg, reduceIte, and_self, true_and, and_true, decide_true, decide_false, Int.toNat_natCast, fld_steps]
theorem e_words_on {ps : Pct} {w : List Nat} {ss : List Stp} : g_Chain_words_on [chob ps w ss] = some (.rt (.ow (strD (wds ps w ss)))) := by
  unfold g_Chain_words_on b_Chain_words_on chob
  simp (disch := first | omega | assumption) only [if_pos, if_neg, decide_eq_true, decide_eq_false, atI_of, cutL_take, cutL_drop, cutL_mid, ge_iff_le, gt_iff_lt, Int.reduceToNat, Int.toNat_zero, Int.toNat_one, Bool.not_true, Bool.not_false, szl, D.key, fDNew, fDGet, sDPutV, fDSet, fRg3, fChV, fSortL, frL, frS, fSortB, sRem, sqAt, eIxI, fItm, fItV, chS, sItC, sItA, sItI, sItS, fTmp, Sl.mut, Sl.th, O.d, sqD, D.atm, sTryR, fSq, aConsF, aNilF, eO, sTgF, setFd, Fd.sl, opJoinRev, fLRev, runDef, runDefI, ioAt, insA, chL, getO, setO, getL, setL, obAt, eFd, eFV, eFB, fFld, fMeth, fMethI, fMake, fCallI, aHere, fIsO, sFldS, setF, Rs.fd, Fd.d, O.d, fMethD, chF, sAppF, fPopF, fPop0, fPop1, sIns, sRetI, sRetNI, fZip, fML, opAny, opAll, opSorted, opMaxL, opMinL, opRfind, opCount, List.map_cons, List.map_nil, cInA, cNinA, inD, itD, fItA, eItA, cLtA, cLeA, fRr1, fRr2, opInt, sPar, fCallD, fRaise0, fRaise1, sTryAs, sTry, aftr, noX, allEq_const, fXf, fXi, fLc, lcL, unE, tYs, Vs.ret, xLock, inis, bof, sNil, sSeq, sAsg, sRet, sRetV, sRetN, sIf, sDrop, sTg, sFor, sBrk, sCnt, sApp, sExt, sOwn, sSetI, opSetI, sLock, unlk, sbnd, bnd, fOp, fCh, fCl, fCall, fLst, fTup, fSl, fIf, fAnd, fOr, fNot, fTru, fAndV, fOrV, fNotV, fNeg, fIsi, fM1, fM2, fRg1, fRg2, fEn, fRev, fSg, fTp, fIt, eIt, eB, eV, eC, frz, shm, aCons, aNil, poN, poS, Rs.d, Rs.sl, vB, List.cons_append, List.nil_append, List.append_nil, List.replicate_zero, List.replicate_succ, List.getElem?_cons_zero, List.getElem?_cons_succ, List.set_cons_zero, List.set_cons_succ, List.length_cons, List.length_nil, opLen, lenD, opList, opAdd, opSub, opMul, opMod, opDiv, opPow, opMin, opMax, opIx, opSl, cmpB, cEq, cNe, cIsN, cNotN, truD, tgN, tgT, setAll, isKd, opFind, opFind3, opStarts, opStarts3, Nat.reduceLT, Nat.reduceAdd, Nat.reduceSub, Nat.reduceLeDiff, Int.reduceLT, Int.reduceLE, Int.reduceNeg, reduceIte, and_self, true_and, and_true, decide_true, decide_false, Int.toNat_natCast, fld_words]

/-! dicts whose keys are texts -/
def StrK (l : List (D × D)) : Prop := ∀ p ∈ l, ∃ x, p.1 = .str x
theorem feq_str (a b : List Nat) : (D.str a).feq (.str b) = decide (a = b) := by
  show (a == b) = _
  rw [Bool.eq_iff_iff]
  simp
theorem dcG_cons (k : D) (p : D × D) (l : List (D × D)) : dcG k (p :: l) = if p.1.feq k = true then some p.2 else dcG k l := rfl
theorem dcG_map {u v : List Nat} (d : D) : ∀ l : List (D × D), StrK l → dcG (.str v) (l.map fun p => if p.1.feq (.str u) = true then (p.1, d) else p) = if u = v ∧ (l.any fun p => p.1.feq (.str u)) = true then some d else dcG (.str v) l
  | [], _ => by simp [dcG]
  | (q, e) :: l, hk => by
    obtain ⟨x, hx⟩ := hk (q, e) List.mem_cons_self
    have ih := dcG_map (u := u) (v := v) d l fun q m => hk q (List.mem_cons_of_mem _ m)
    dsimp only at hx
    subst hx
    rw [List.map_cons, List.any_cons]
    dsimp only
    rw [feq_str]
    by_cases hu : x = u
    · subst hu
      simp only [decide_true, if_true, Bool.true_or, and_true]
      rw [dcG_cons, dcG_cons, ih]
      dsimp only
      rw [feq_str]
      by_cases hv : x = v
      · simp [hv]
      · simp [hv]
    · simp only [decide_eq_false hu, Bool.false_eq_true, if_false, Bool.false_or]
      rw [dcG_cons, dcG_cons, ih]
      dsimp only
      rw [feq_str]
      by_cases hv : x = v
      · subst hv
        rw [if_pos (decide_eq_true rfl), if_pos (decide_eq_true rfl), if_neg (fun z => hu z.1.symm)]
      · rw [if_neg (by simpa using hv), if_neg (show ¬ decide (x = v) = true by simpa using hv)]
theorem dcG_app {u v : List Nat} (d : D) : ∀ l : List (D × D), StrK l → dcG (.str v) (l ++ [(.str u, d)]) = match dcG (.str v) l with
    | some x => some x
    | none => if u = v then some d else none
  | [], _ => by
    rw [List.nil_append, dcG_cons]
    dsimp only
    rw [feq_str]
    by_cases h : u = v
    · simp [h, dcG]
    · simp [h, dcG]
  | p :: l, hk => by
    rw [List.cons_append, dcG_cons, dcG_cons, dcG_app d l fun q m => hk q (List.mem_cons_of_mem _ m)]
    split <;> rfl
theorem dcG_none {u : List Nat} : ∀ l : List (D × D), (l.any fun p => p.1.feq (.str u)) = false → dcG (.str u) l = none
  | [], _ => rfl
  | p :: l, h => by
    rw [List.any_cons, Bool.or_eq_false_iff] at h
    rw [dcG_cons, if_neg (by rw [h.1]; decide), dcG_none l h.2]
theorem dcG_put {u v : List Nat} {d : D} {l : List (D × D)} (hk : StrK l) : dcG (.str v) (dcP (.str u) d l) = if u = v then some d else dcG (.str v) l := by
  unfold dcP
  by_cases h : (l.any fun p => p.1.feq (.str u)) = true
  · rw [if_pos h, dcG_map d l hk]
    by_cases e : u = v
    · rw [if_pos ⟨e, h⟩, if_pos e]
    · rw [if_neg (fun z => e z.1), if_neg e]
  · rw [if_neg h, dcG_app d l hk]
    by_cases e : u = v
    · subst e
      rw [dcG_none l (by simpa using h), if_pos rfl]
    · rw [if_neg e, if_neg e]
      cases dcG (.str v) l <;> rfl
theorem strK_put {u : List Nat} {d : D} {l : List (D × D)} (hk : StrK l) : StrK (dcP (.str u) d l) := by
  intro p hp
  unfold dcP at hp
  split at hp
  · obtain ⟨q, hq, rfl⟩ := List.mem_map.mp hp
    split
    · exact hk q hq
    · exact hk q hq
  · rcases List.mem_append.mp hp with hp | hp
    · exact hk p hp
    · rw [List.mem_singleton.mp hp]
      exact ⟨u, rfl⟩
theorem dcP_len {k d : D} {l : List (D × D)} : (dcP k d l).length ≤ l.length + 1 := by
  unfold dcP
  split
  · rw [List.length_map]; omega
  · rw [List.length_append]; exact Nat.le_refl _

/-! a chain with its rounds cut out, plainly -/
structure LastAt (ws : List (List Nat)) (i j : Nat) : Prop where
  lt : j < ws.length
  eq : ws[j]? = ws[i]?
  no : ∀ k, j < k → k < ws.length → ws[k]? ≠ ws[i]?
theorem last_ge {ws : List (List Nat)} {i j : Nat} (h : LastAt ws i j) (hi : i < ws.length) : i ≤ j := by
  by_cases q : i ≤ j
  · exact q
  · exact absurd rfl (h.no i (by omega) hi)
theorem last_uniq {ws : List (List Nat)} {i j k : Nat} (h : LastAt ws i j) (g : LastAt ws i k) : j = k := by
  rcases Nat.lt_trichotomy j k with q | q | q
  · exact absurd g.eq (h.no k q g.lt)
  · exact q
  · exact absurd h.eq (g.no j q h.lt)
theorem last_ex (ws : List (List Nat)) : ∀ (f i : Nat), ws.length - i ≤ f → i < ws.length → ∃ j, LastAt ws i j
  | 0, i, h, hi => by omega
  | f + 1, i, h, hi => by
    by_cases q : ∃ k, i < k ∧ k < ws.length ∧ ws[k]? = ws[i]?
    · obtain ⟨k, k1, k2, k3⟩ := q
      obtain ⟨j, hj⟩ := last_ex ws f k (by omega) k2
      exact ⟨j, hj.lt, hj.eq.trans k3, fun m a b c => hj.no m a b (c.trans k3.symm)⟩
    · exact ⟨i, hi, rfl, fun k a b c => q ⟨k, a, b, c⟩⟩
def Las (ws : List (List Nat)) (la : Nat → Nat) : Prop := ∀ i, i < ws.length → LastAt ws i (la i)
theorem las_ex (ws : List (List Nat)) : ∃ la, Las ws la := by
  have h : ∀ i, ∃ j, i < ws.length → LastAt ws i j := fun i => by
    by_cases q : i < ws.length
    · obtain ⟨j, hj⟩ := last_ex ws _ i (Nat.le_refl _) q
      exact ⟨j, fun _ => hj⟩
    · exact ⟨0, fun z => absurd z q⟩
  obtain ⟨la, hla⟩ := Classical.axiomOfChoice h
  exact ⟨la, hla⟩
def dueS (la : Nat → Nat) (ss : List Stp) : Nat → Nat → List Stp
  | 0, _ => []
  | f + 1, a => match ss[la a]? with
    | some s => s :: dueS la ss f (la a + 1)
    | none => []
theorem wds_step {ps : Pct} : ∀ (ss : List Stp) (w : List Nat) (k : Nat) (s : Stp), Vld ps w ss → ss[k]? = some s → ∃ u, (wds ps w ss)[k]? = some u ∧ Fit ps u s ∧ (wds ps w ss)[k + 1]? = some (usedW ps u s)
  | [], _, _, _, _, e => by cases e
  | t :: ss, w, 0, s, ⟨h1, h2⟩, e => by
    cases e
    refine ⟨w, rfl, h1, ?_⟩
    show (wds ps (usedW ps w t) ss)[0]? = _
    rw [wds_cons]
    rfl
  | t :: ss, w, k + 1, s, ⟨h1, h2⟩, e => by
    obtain ⟨u, a, b, c⟩ := wds_step ss _ k s h2 e
    exact ⟨u, a, b, c⟩
structure DueOk (ps : Pct) (ws : List (List Nat)) (z u : List Nat) (a : Nat) (r : List Stp) : Prop where
  v : Vld ps u r
  e : endW ps u r = z
  m : ∀ v ∈ wds ps u r, ∃ i, a ≤ i ∧ ws[i]? = some v
  nd : (wds ps u r).Nodup
theorem due_ok {ps : Pct} {w : List Nat} {ss : List Stp} {la : Nat → Nat} (hv : Vld ps w ss) (hla : Las (wds ps w ss) la) : ∀ (f a : Nat) (u : List Nat), (wds ps w ss)[a]? = some u → (wds ps w ss).length - a ≤ f → DueOk ps (wds ps w ss) (endW ps w ss) u a (dueS la ss f a) ∧ (dueS la ss f a).length ≤ ss.length - a
  | 0, a, u, hu, hf => by
    have := (List.getElem?_eq_some_iff.mp hu).1
    omega
  | f + 1, a, u, hu, hf => by
    have ha := (List.getElem?_eq_some_iff.mp hu).1
    have h := hla a ha
    have ge := last_ge h ha
    have hl := wds_len ps ss w
    rw [dueS]
    cases q : ss[la a]? with
    | some s =>
      dsimp only
      have hlt := (List.getElem?_eq_some_iff.mp q).1
      obtain ⟨u', e1, e2, e3⟩ := wds_step ss w _ s hv q
      rw [h.eq, hu] at e1
      cases e1
      obtain ⟨ih, il⟩ := due_ok hv hla f (la a + 1) _ e3 (by omega)
      refine ⟨⟨⟨e2, ih.v⟩, ih.e, fun v hv => ?_, ?_⟩, by rw [List.length_cons]; omega⟩
      · rw [wds] at hv
        rcases List.mem_cons.mp hv with rfl | hv
        · exact ⟨a, Nat.le_refl _, hu⟩
        · obtain ⟨i, i1, i2⟩ := ih.m v hv
          exact ⟨i, by omega, i2⟩
      · rw [wds, List.nodup_cons]
        refine ⟨fun hm => ?_, ih.nd⟩
        obtain ⟨i, i1, i2⟩ := ih.m u hm
        exact h.no i (by omega) (List.getElem?_eq_some_iff.mp i2).1 (i2.trans hu.symm)
    | none =>
      dsimp only
      have hge := List.getElem?_eq_none_iff.mp q
      have e : la a = ss.length := by have := h.lt; omega
      have e1 := wds_last ps ss w
      rw [← e, h.eq, hu] at e1
      have e1 := Option.some.inj e1
      refine ⟨⟨trivial, e1, fun v hv => ?_, ?_⟩, Nat.zero_le _⟩
      · rw [wds] at hv
        rw [List.mem_singleton.mp hv]
        exact ⟨a, Nat.le_refl _, hu⟩
      · rw [wds]
        simp
/-- nothing to cut -/
theorem due_same {ss : List Stp} {la : Nat → Nat} {n : Nat} (hla : ∀ i, i < n → la i = i) (hn : n = ss.length + 1) : ∀ (f a : Nat), n - a ≤ f → a < n → dueS la ss f a = ss.drop a
  | 0, a, h, q => by omega
  | f + 1, a, h, q => by
    rw [dueS]
    · rw [hla a q]
      cases e : ss[a]? with
      | some s =>
        dsimp only
        obtain ⟨h1, h2⟩ := List.getElem?_eq_some_iff.mp e
        rw [due_same hla hn f (a + 1) (by omega) (by omega), List.drop_eq_getElem_cons h1, h2]
      | none =>
        rw [List.drop_eq_nil_of_le (List.getElem?_eq_none_iff.mp e)]
theorem las_nodup {ws : List (List Nat)} {la : Nat → Nat} (hn : ws.Nodup) (hla : Las ws la) : ∀ i, i < ws.length → la i = i := fun i hi => by
  have h := hla i hi
  have e := h.eq
  rw [List.getElem?_eq_getElem h.lt, List.getElem?_eq_getElem hi] at e
  exact (List.getElem_inj hn).mp (Option.some.inj e)

/-! Chain.straight walked -/
theorem str_at {ws : List (List Nat)} {k : Nat} {v : List Nat} (h : ws[k]? = some v) : (strD ws)[k]? = some (.str v) := by
  unfold strD
  rw [List.getElem?_map, h]
  rfl
theorem enum_at' {l : List D} {i : Nat} {d : D} (h : (enumL l)[i]? = some d) : ∃ x, l[i]? = some x ∧ d = .tup [.int (i : Int), x] := by
  unfold enumL at h
  rw [List.getElem?_map, List.getElem?_zipIdx] at h
  cases hx : l[i]? with
  | none => rw [hx] at h; cases h
  | some x =>
    rw [hx] at h
    have h := Option.some.inj h
    refine ⟨x, rfl, ?_⟩
    rw [← h, Nat.zero_add]
theorem e_last_at {ws : List (List Nat)} {la : Nat → Nat} (hla : Las ws la) (hl : ws.length ≤ 1000) (ob : D) : ∃ ds s3 s4, forL (tgT [3, 4]) l1_Chain_straight (enumL (strD ws)) [.sh ob, .tr (.dc []), .un, .un, .un] = some (.nx [.sh ob, .tr (.dc ds), .un, s3, s4]) ∧ ∀ k v, ws[k]? = some v → dcG (.str v) ds = some (.int ((la k : Nat) : Int)) := by
  have hel : (enumL (strD ws)).length = ws.length := by
    unfold enumL
    rw [List.length_map, List.length_zipIdx, strD_len]
  obtain ⟨e', g1, ds, s3, s4, rfl, h1, h2, h3⟩ := forL_inv (tg := tgT [3, 4]) (body := l1_Chain_straight) (fun i e => ∃ (ds : List (D × D)) (s3 s4 : Sl), e = [.sh ob, .tr (.dc ds), .un, s3, s4] ∧ StrK ds ∧ ds.length ≤ i ∧ ∀ k v, k < i → ws[k]? = some v → ∃ j, j < i ∧ ws[j]? = some v ∧ (∀ m, j < m → m < i → ws[m]? ≠ some v) ∧ dcG (.str v) ds = some (.int ((j : Nat) : Int)))
    (enumL (strD ws)) [.sh ob, .tr (.dc []), .un, .un, .un] ⟨[], _, _, rfl, (fun p hp => nomatch hp), Nat.le_refl _, fun k v hk => absurd hk (Nat.not_lt_zero _)⟩ (fun i d e hd ⟨ds, s3, s4, he, h1, h2, h3⟩ => by
      subst he
      obtain ⟨x, hx, rfl⟩ := enum_at' hd
      have hi : i < ws.length := by
        rw [← hel]
        exact (List.getElem?_eq_some_iff.mp hd).1
      obtain ⟨u, hu⟩ : ∃ u, ws[i]? = some u := ⟨_, List.getElem?_eq_getElem hi⟩
      rw [str_at hu] at hx
      have hx := (Option.some.inj hx).symm
      subst hx
      refine ⟨_, rfl, ?_⟩
      have hdl : ds.length < 1000000 := by omega
      refine ⟨[.sh ob, .tr (.dc (dcP (.str u) (.int (i : Int)) ds)), .un, .sh (.int (i : Int)), .sh (.str u)], ?_, dcP (.str u) (.int (i : Int)) ds, _, _, rfl, strK_put h1, Nat.le_trans dcP_len (Nat.add_le_add_right h2 1), fun k v hk hv => ?_⟩
      · unfold l1_Chain_straight
        simp (disch := first | omega | assumption) only [if_pos, if_neg, decide_eq_true, decide_eq_false, atI_of, cutL_take, cutL_drop, cutL_mid, ge_iff_le, gt_iff_lt, Int.reduceToNat, Int.toNat_zero, Int.toNat_one, Bool.not_true, Bool.not_false, szl, D.key, fDNew, fDGet, sDPutV, fDSet, fRg3, fChV, fSortL, frL, frS, fSortB, sRem, sqAt, eIxI, fItm, fItV, chS, sItC, sItA, sItI, sItS, fTmp, Sl.mut, Sl.th, O.d, sqD, D.atm, sTryR, fSq, aConsF, aNilF, eO, sTgF, setFd, Fd.sl, opJoinRev, fLRev, runDef, runDefI, ioAt, insA, chL, getO, setO, getL, setL, obAt, eFd, eFV, eFB, fFld, fMeth, fMethI, fMake, fCallI, aHere, fIsO, sFldS, setF, Rs.fd, Fd.d, O.d, fMethD, chF, sAppF, fPopF, fPop0, fPop1, sIns, sRetI, sRetNI, fZip, fML, opAny, opAll, opSorted, opMaxL, opMinL, opRfind, opCount, List.map_cons, List.map_nil, cInA, cNinA, inD, itD, fItA, eItA, cLtA, cLeA, fRr1, fRr2, opInt, sPar, fCallD, fRaise0, fRaise1, sTryAs, sTry, aftr, noX, allEq_const, fXf, fXi, fLc, lcL, unE, tYs, Vs.ret, xLock, inis, bof, sNil, sSeq, sAsg, sRet, sRetV, sRetN, sIf, sDrop, sTg, sFor, sBrk, sCnt, sApp, sExt, sOwn, sSetI, opSetI, sLock, unlk, sbnd, bnd, fOp, fCh, fCl, fCall, fLst, fTup, fSl, fIf, fAnd, fOr, fNot, fTru, fAndV, fOrV, fNotV, fNeg, fIsi, fM1, fM2, fRg1, fRg2, fEn, fRev, fSg, fTp, fIt, eIt, eB, eV, eC, frz, shm, aCons, aNil, poN, poS, Rs.d, Rs.sl, vB, List.cons_append, List.nil_append, List.append_nil, List.replicate_zero, List.replicate_succ, List.getElem?_cons_zero, List.getElem?_cons_succ, List.set_cons_zero, List.set_cons_succ, List.length_cons, List.length_nil, opLen, lenD, opList, opAdd, opSub, opMul, opMod, opDiv, opPow, opMin, opMax, opIx, opSl, cmpB, cEq, cNe, cIsN, cNotN, truD, tgN, tgT, setAll, isKd, opFind, opFind3, opStarts, opStarts3, Nat.reduceLT, Nat.reduceAdd, Nat.reduceSub, Nat.reduceLeDiff, Int.reduceLT, Int.reduceLE, Int.reduceNeg, reduceIte, and_self, true_and, and_true, decide_true, decide_false, Int.toNat_natCast, hdl]
      · rw [dcG_put h1]
        by_cases q : u = v
        · subst q
          exact ⟨i, by omega, hu, fun m a b => by omega, if_pos rfl⟩
        · have hki : k < i := by
            rcases Nat.lt_or_ge k i with z | z
            · exact z
            · have : k = i := by omega
              subst this
              rw [hu] at hv
              exact absurd (Option.some.inj hv) q
          obtain ⟨j, j1, j2, j3, j4⟩ := h3 k v hki hv
          refine ⟨j, by omega, j2, fun m a b => ?_, by rw [if_neg q]; exact j4⟩
          by_cases z : m = i
          · subst z
            rw [hu]
            exact fun y => q (Option.some.inj y)
          · exact j3 m a (by omega))
  rw [hel] at h3
  refine ⟨ds, s3, s4, g1, fun k v hv => ?_⟩
  have hk := (List.getElem?_eq_some_iff.mp hv).1
  obtain ⟨j, j1, j2, j3, j4⟩ := h3 k v hk hv
  rw [j4, last_uniq (hla k hk) ⟨j1, j2.trans hv.symm, fun m a b => by rw [hv]; exact j3 m a b⟩]
theorem e_straight_while {ps : Pct} {w : List Nat} {ss : List Stp} {la : Nat → Nat} (hla : Las (wds ps w ss) la) (hl : ss.length ≤ 900) {ds : List (D × D)} (hd : ∀ k v, (wds ps w ss)[k]? = some v → dcG (.str v) ds = some (.int ((la k : Nat) : Int))) :
    ∀ (f N a : Nat) (acc : List Stp) (s4 : Sl), ss.length + 1 - a ≤ f → a ≤ ss.length → f < N → acc.length + f ≤ 10000 → ∃ s3, whL N w2_Chain_straight l2_Chain_straight [.sh (chob ps w ss), .tr (.dc ds), .ow (stL acc), .sh (.int ((la a : Nat) : Int)), s4] = some (.nx [.sh (chob ps w ss), .tr (.dc ds), .ow (stL (acc ++ dueS la ss f a)), s3, s4])
  | 0, N, a, acc, s4, h1, h2, _, _ => by omega
  | f + 1, 0, a, acc, s4, _, _, h3, _ => by omega
  | f + 1, N + 1, a, acc, s4, h1, h2, h3, h4 => by
    have wl := wds_len ps ss w
    have h := hla a (by omega)
    have ge := last_ge h (by omega)
    have sl := stL_len ss
    obtain ⟨p, hp⟩ : ∃ p : Nat, p = la a := ⟨_, rfl⟩
    obtain ⟨Px, hP⟩ : ∃ Px : Int, Px = (p : Int) := ⟨_, rfl⟩
    have hPt : Px.toNat = p := by omega
    have hPt1 : (Px + 1).toNat = p + 1 := by omega
    have test : w2_Chain_straight [.sh (chob ps w ss), .tr (.dc ds), .ow (stL acc), .sh (.int Px), s4] = some (.ok (decide (Px < ((stL ss).length : Int))) [.sh (chob ps w ss), .tr (.dc ds), .ow (stL acc), .sh (.int Px), s4]) := by
      unfold w2_Chain_straight chob
      simp (disch := first | omega | assumption) only [if_pos, if_neg, decide_eq_true, decide_eq_false, atI_of, cutL_take, cutL_drop, cutL_mid, ge_iff_le, gt_iff_lt, Int.reduceToNat, Int.toNat_zero, Int.toNat_one, Bool.not_true, Bool.not_false, szl, D.key, fDNew, fDGet, sDPutV, fDSet, fRg3, fChV, fSortL, frL, frS, fSortB, sRem, sqAt, eIxI, fItm, fItV, chS, sItC, sItA, sItI, sItS, fTmp, Sl.mut, Sl.th, O.d, sqD, D.atm, sTryR, fSq, aConsF, aNilF, eO, sTgF, setFd, Fd.sl, opJoinRev, fLRev, runDef, runDefI, ioAt, insA, chL, getO, setO, getL, setL, obAt, eFd, eFV, eFB, fFld, fMeth, fMethI, fMake, fCallI, aHere, fIsO, sFldS, setF, Rs.fd, Fd.d, O.d, fMethD, chF, sAppF, fPopF, fPop0, fPop1, sIns, sRetI, sRetNI, fZip, fML, opAny, opAll, opSorted, opMaxL, opMinL, opRfind, opCount, List.map_cons, List.map_nil, cInA, cNinA, inD, itD, fItA, eItA, cLtA, cLeA, fRr1, fRr2, opInt, sPar, fCallD, fRaise0, fRaise1, sTryAs, sTry, aftr, noX, allEq_const, fXf, fXi, fLc, lcL, unE, tYs, Vs.ret, xLock, inis, bof, sNil, sSeq, sAsg, sRet, sRetV, sRetN, sIf, sDrop, sTg, sFor, sBrk, sCnt, sApp, sExt, sOwn, sSetI, opSetI, sLock, unlk, sbnd, bnd, fOp, fCh, fCl, fCall, fLst, fTup, fSl, fIf, fAnd, fOr, fNot, fTru, fAndV, fOrV, fNotV, fNeg, fIsi, fM1, fM2, fRg1, fRg2, fEn, fRev, fSg, fTp, fIt, eIt, eB, eV, eC, frz, shm, aCons, aNil, poN, poS, Rs.d, Rs.sl, vB, List.cons_append, List.nil_append, List.append_nil, List.replicate_zero, List.replicate_succ, List.getElem?_cons_zero, List.getElem?_cons_succ, List.set_cons_zero, List.set_cons_succ, List.length_cons, List.length_nil, opLen, lenD, opList, opAdd, opSub, opMul, opMod, opDiv, opPow, opMin, opMax, opIx, opSl, cmpB, cEq, cNe, cIsN, cNotN, truD, tgN, tgT, setAll, isKd, opFind, opFind3, opStarts, opStarts3, Nat.reduceLT, Nat.reduceAdd, Nat.reduceSub, Nat.reduceLeDiff, Int.reduceLT, Int.reduceLE, Int.reduceNeg, reduceIte, and_self, true_and, and_true, decide_true, decide_false, Int.toNat_natCast, fld_steps]
    rw [← hp, ← hP]
    unfold whL sbnd
    rw [test, sl]
    rw [dueS, ← hp]
    cases q : ss[p]? with
    | none =>
      have hge := List.getElem?_eq_none_iff.mp q
      rw [decide_eq_false (show ¬ Px < (ss.length : Int) by omega)]
      dsimp only
      rw [List.append_nil]
      exact ⟨_, rfl⟩
    | some s =>
      have hlt := (List.getElem?_eq_some_iff.mp q).1
      rw [decide_eq_true (show Px < (ss.length : Int) by omega)]
      dsimp only
      obtain ⟨v, hv⟩ : ∃ v, (wds ps w ss)[p + 1]? = some v := ⟨_, List.getElem?_eq_getElem (by omega)⟩
      have g1 : (stL ss)[p]? = some (stD s) := by unfold stL; rw [List.getElem?_map, q]; rfl
      have g2 := str_at hv
      have g3 := hd _ _ hv
      have al : (stL acc).length < 1000000 := by rw [stL_len]; omega
      obtain ⟨s3, ih⟩ := e_straight_while hla hl hd f N (p + 1) (acc ++ [s]) s4 (by omega) (by omega) (by omega) (by rw [List.length_append, List.length_singleton]; omega)
      have body : l2_Chain_straight [.sh (chob ps w ss), .tr (.dc ds), .ow (stL acc), .sh (.int Px), s4] = some (.nx [.sh (chob ps w ss), .tr (.dc ds), .ow (stL (acc ++ [s])), .sh (.int ((la (p + 1) : Nat) : Int)), s4]) := by
        unfold l2_Chain_straight chob
        have e5 : stL acc ++ [stD s] = stL (acc ++ [s]) := by unfold stL; rw [List.map_append]; rfl
        simp (disch := first | omega | assumption) only [if_pos, if_neg, decide_eq_true, decide_eq_false, atI_of, cutL_take, cutL_drop, cutL_mid, ge_iff_le, gt_iff_lt, Int.reduceToNat, Int.toNat_zero, Int.toNat_one, Bool.not_true, Bool.not_false, szl, D.key, fDNew, fDGet, sDPutV, fDSet, fRg3, fChV, fSortL, frL, frS, fSortB, sRem, sqAt, eIxI, fItm, fItV, chS, sItC, sItA, sItI, sItS, fTmp, Sl.mut, Sl.th, O.d, sqD, D.atm, sTryR, fSq, aConsF, aNilF, eO, sTgF, setFd, Fd.sl, opJoinRev, fLRev, runDef, runDefI, ioAt, insA, chL, getO, setO, getL, setL, obAt, eFd, eFV, eFB, fFld, fMeth, fMethI, fMake, fCallI, aHere, fIsO, sFldS, setF, Rs.fd, Fd.d, O.d, fMethD, chF, sAppF, fPopF, fPop0, fPop1, sIns, sRetI, sRetNI, fZip, fML, opAny, opAll, opSorted, opMaxL, opMinL, opRfind, opCount, List.map_cons, List.map_nil, cInA, cNinA, inD, itD, fItA, eItA, cLtA, cLeA, fRr1, fRr2, opInt, sPar, fCallD, fRaise0, fRaise1, sTryAs, sTry, aftr, noX, allEq_const, fXf, fXi, fLc, lcL, unE, tYs, Vs.ret, xLock, inis, bof, sNil, sSeq, sAsg, sRet, sRetV, sRetN, sIf, sDrop, sTg, sFor, sBrk, sCnt, sApp, sExt, sOwn, sSetI, opSetI, sLock, unlk, sbnd, bnd, fOp, fCh, fCl, fCall, fLst, fTup, fSl, fIf, fAnd, fOr, fNot, fTru, fAndV, fOrV, fNotV, fNeg, fIsi, fM1, fM2, fRg1, fRg2, fEn, fRev, fSg, fTp, fIt, eIt, eB, eV, eC, frz, shm, aCons, aNil, poN, poS, Rs.d, Rs.sl, vB, List.cons_append, List.nil_append, List.append_nil, List.replicate_zero, List.replicate_succ, List.getElem?_cons_zero, List.getElem?_cons_succ, List.set_cons_zero, List.set_cons_succ, List.length_cons, List.length_nil, opLen, lenD, opList, opAdd, opSub, opMul, opMod, opDiv, opPow, opMin, opMax, opIx, opSl, cmpB, cEq, cNe, cIsN, cNotN, truD, tgN, tgT, setAll, isKd, opFind, opFind3, opStarts, opStarts3, Nat.reduceLT, Nat.reduceAdd, Nat.reduceSub, Nat.reduceLeDiff, Int.reduceLT, Int.reduceLE, Int.reduceNeg, reduceIte, and_self, true_and, and_true, decide_true, decide_false, Int.toNat_natCast, fld_steps, fld_words, hPt, hPt1, g1, g2, g3, e5]
      rw [body]
      dsimp only
      refine ⟨s3, ?_⟩
      rw [ih, List.append_assoc]
      rfl
theorem e_Chain_straight {ps : Pct} {w : List Nat} {ss : List Stp} {la : Nat → Nat} (h : ChOk ps w ss) (hla : Las (wds ps w ss) la) : g_Chain_straight [chob ps w ss] = some (.rt (.sh (chob ps w (dueS la ss (ss.length + 1) 0)))) := by
  have wl := wds_len ps ss w
  have hl := h.l
  have hw0 : (wds ps w ss)[0]? = some w := by rw [wds_cons]; rfl
  obtain ⟨ds, s3, s4, f1, hd⟩ := e_last_at hla (by omega) (chob ps w ss)
  obtain ⟨t3, f2⟩ := e_straight_while hla (by omega) hd (ss.length + 1) fuel 0 [] s4 (by omega) (by omega) (lt_fuel (by omega)) (by rw [List.length_nil]; omega)
  obtain ⟨k1, k2⟩ := due_ok h.v hla (ss.length + 1) 0 w hw0 (by omega)
  obtain ⟨r, hr⟩ : ∃ r, r = dueS la ss (ss.length + 1) 0 := ⟨_, rfl⟩
  rw [List.nil_append, ← hr] at f2
  rw [← hr] at k1 k2 ⊢
  have ci := e_Chain_init (ps := ps) (w := w) (ss := r) ⟨h.sz, h.B, k1.v, by omega⟩
  have fi := e_first (ps := ps) (w := w) (ss := ss)
  have h0 := hd 0 w hw0
  unfold g_Chain_straight b_Chain_straight
  unfold chob at *
  refine run_fin ?_
  refine fin_seq (by simp (disch := first | omega | assumption) only [if_pos, if_neg, decide_eq_true, decide_eq_false, atI_of, cutL_take, cutL_drop, cutL_mid, ge_iff_le, gt_iff_lt, Int.reduceToNat, Int.toNat_zero, Int.toNat_one, Bool.not_true, Bool.not_false, szl, D.key, fDNew, fDGet, sDPutV, fDSet, fRg3, fChV, fSortL, frL, frS, fSortB, sRem, sqAt, eIxI, fItm, fItV, chS, sItC, sItA, sItI, sItS, fTmp, Sl.mut, Sl.th, O.d, sqD, D.atm, sTryR, fSq, aConsF, aNilF, eO, sTgF, setFd, Fd.sl, opJoinRev, fLRev, runDef, runDefI, ioAt, insA, chL, getO, setO, getL, setL, obAt, eFd, eFV, eFB, fFld, fMeth, fMethI, fMake, fCallI, aHere, fIsO, sFldS, setF, Rs.fd, Fd.d, O.d, fMethD, chF, sAppF, fPopF, fPop0, fPop1, sIns, sRetI, sRetNI, fZip, fML, opAny, opAll, opSorted, opMaxL, opMinL, opRfind, opCount, List.map_cons, List.map_nil, cInA, cNinA, inD, itD, fItA, eItA, cLtA, cLeA, fRr1, fRr2, opInt, sPar, fCallD, fRaise0, fRaise1, sTryAs, sTry, aftr, noX, allEq_const, fXf, fXi, fLc, lcL, unE, tYs, Vs.ret, xLock, inis, bof, sNil, sSeq, sAsg, sRet, sRetV, sRetN, sIf, sDrop, sTg, sFor, sBrk, sCnt, sApp, sExt, sOwn, sSetI, opSetI, sLock, unlk, sbnd, bnd, fOp, fCh, fCl, fCall, fLst, fTup, fSl, fIf, fAnd, fOr, fNot, fTru, fAndV, fOrV, fNotV, fNeg, fIsi, fM1, fM2, fRg1, fRg2, fEn, fRev, fSg, fTp, fIt, eIt, eB, eV, eC, frz, shm, aCons, aNil, poN, poS, Rs.d, Rs.sl, vB, List.cons_append, List.nil_append, List.append_nil, List.replicate_zero, List.replicate_succ, List.getElem?_cons_zero, List.getElem?_cons_succ, List.set_cons_zero, List.set_cons_succ, List.length_cons, List.length_nil, opLen, lenD, opList, opAdd, opSub, opMul, opMod, opDiv, opPow, opMin, opMax, opIx, opSl, cmpB, cEq, cNe, cIsN, cNotN, truD, tgN, tgT, setAll, isKd, opFind, opFind3, opStarts, opStarts3, Nat.reduceLT, Nat.reduceAdd, Nat.reduceSub, Nat.reduceLeDiff, Int.reduceLT, Int.reduceLE, Int.reduceNeg, reduceIte, and_self, true_and, and_true, decide_true, decide_false, Int.toNat_natCast, ]; exact rfl) ?_
  refine fin_seq (by simp (disch := first | omega | assumption) only [if_pos, if_neg, decide_eq_true, decide_eq_false, atI_of, cutL_take, cutL_drop, cutL_mid, ge_iff_le, gt_iff_lt, Int.reduceToNat, Int.toNat_zero, Int.toNat_one, Bool.not_true, Bool.not_false, szl, D.key, fDNew, fDGet, sDPutV, fDSet, fRg3, fChV, fSortL, frL, frS, fSortB, sRem, sqAt, eIxI, fItm, fItV, chS, sItC, sItA, sItI, sItS, fTmp, Sl.mut, Sl.th, O.d, sqD, D.atm, sTryR, fSq, aConsF, aNilF, eO, sTgF, setFd, Fd.sl, opJoinRev, fLRev, runDef, runDefI, ioAt, insA, chL, getO, setO, getL, setL, obAt, eFd, eFV, eFB, fFld, fMeth, fMethI, fMake, fCallI, aHere, fIsO, sFldS, setF, Rs.fd, Fd.d, O.d, fMethD, chF, sAppF, fPopF, fPop0, fPop1, sIns, sRetI, sRetNI, fZip, fML, opAny, opAll, opSorted, opMaxL, opMinL, opRfind, opCount, List.map_cons, List.map_nil, cInA, cNinA, inD, itD, fItA, eItA, cLtA, cLeA, fRr1, fRr2, opInt, sPar, fCallD, fRaise0, fRaise1, sTryAs, sTry, aftr, noX, allEq_const, fXf, fXi, fLc, lcL, unE, tYs, Vs.ret, xLock, inis, bof, sNil, sSeq, sAsg, sRet, sRetV, sRetN, sIf, sDrop, sTg, sFor, sBrk, sCnt, sApp, sExt, sOwn, sSetI, opSetI, sLock, unlk, sbnd, bnd, fOp, fCh, fCl, fCall, fLst, fTup, fSl, fIf, fAnd, fOr, fNot, fTru, fAndV, fOrV, fNotV, fNeg, fIsi, fM1, fM2, fRg1, fRg2, fEn, fRev, fSg, fTp, fIt, eIt, eB, eV, eC, frz, shm, aCons, aNil, poN, poS, Rs.d, Rs.sl, vB, List.cons_append, List.nil_append, List.append_nil, List.replicate_zero, List.replicate_succ, List.getElem?_cons_zero, List.getElem?_cons_succ, List.set_cons_zero, List.set_cons_succ, List.length_cons, List.length_nil, opLen, lenD, opList, opAdd, opSub, opMul, opMod, opDiv, opPow, opMin, opMax, opIx, opSl, cmpB, cEq, cNe, cIsN, cNotN, truD, tgN, tgT, setAll, isKd, opFind, opFind3, opStarts, opStarts3, Nat.reduceLT, Nat.reduceAdd, Nat.reduceSub, Nat.reduceLeDiff, Int.reduceLT, Int.reduceLE, Int.reduceNeg, reduceIte, and_self, true_and, and_true, decide_true, decide_false, Int.toNat_natCast, fld_words, itD, f1]; exact rfl) ?_
  refine fin_seq (by simp (disch := first | omega | assumption) only [if_pos, if_neg, decide_eq_true, decide_eq_false, atI_of, cutL_take, cutL_drop, cutL_mid, ge_iff_le, gt_iff_lt, Int.reduceToNat, Int.toNat_zero, Int.toNat_one, Bool.not_true, Bool.not_false, szl, D.key, fDNew, fDGet, sDPutV, fDSet, fRg3, fChV, fSortL, frL, frS, fSortB, sRem, sqAt, eIxI, fItm, fItV, chS, sItC, sItA, sItI, sItS, fTmp, Sl.mut, Sl.th, O.d, sqD, D.atm, sTryR, fSq, aConsF, aNilF, eO, sTgF, setFd, Fd.sl, opJoinRev, fLRev, runDef, runDefI, ioAt, insA, chL, getO, setO, getL, setL, obAt, eFd, eFV, eFB, fFld, fMeth, fMethI, fMake, fCallI, aHere, fIsO, sFldS, setF, Rs.fd, Fd.d, O.d, fMethD, chF, sAppF, fPopF, fPop0, fPop1, sIns, sRetI, sRetNI, fZip, fML, opAny, opAll, opSorted, opMaxL, opMinL, opRfind, opCount, List.map_cons, List.map_nil, cInA, cNinA, inD, itD, fItA, eItA, cLtA, cLeA, fRr1, fRr2, opInt, sPar, fCallD, fRaise0, fRaise1, sTryAs, sTry, aftr, noX, allEq_const, fXf, fXi, fLc, lcL, unE, tYs, Vs.ret, xLock, inis, bof, sNil, sSeq, sAsg, sRet, sRetV, sRetN, sIf, sDrop, sTg, sFor, sBrk, sCnt, sApp, sExt, sOwn, sSetI, opSetI, sLock, unlk, sbnd, bnd, fOp, fCh, fCl, fCall, fLst, fTup, fSl, fIf, fAnd, fOr, fNot, fTru, fAndV, fOrV, fNotV, fNeg, fIsi, fM1, fM2, fRg1, fRg2, fEn, fRev, fSg, fTp, fIt, eIt, eB, eV, eC, frz, shm, aCons, aNil, poN, poS, Rs.d, Rs.sl, vB, List.cons_append, List.nil_append, List.append_nil, List.replicate_zero, List.replicate_succ, List.getElem?_cons_zero, List.getElem?_cons_succ, List.set_cons_zero, List.set_cons_succ, List.length_cons, List.length_nil, opLen, lenD, opList, opAdd, opSub, opMul, opMod, opDiv, opPow, opMin, opMax, opIx, opSl, cmpB, cEq, cNe, cIsN, cNotN, truD, tgN, tgT, setAll, isKd, opFind, opFind3, opStarts, opStarts3, Nat.reduceLT, Nat.reduceAdd, Nat.reduceSub, Nat.reduceLeDiff, Int.reduceLT, Int.reduceLE, Int.reduceNeg, reduceIte, and_self, true_and, and_true, decide_true, decide_false, Int.toNat_natCast, ]; exact rfl) ?_
  refine fin_seq (by simp (disch := first | omega | assumption) only [if_pos, if_neg, decide_eq_true, decide_eq_false, atI_of, cutL_take, cutL_drop, cutL_mid, ge_iff_le, gt_iff_lt, Int.reduceToNat, Int.toNat_zero, Int.toNat_one, Bool.not_true, Bool.not_false, szl, D.key, fDNew, fDGet, sDPutV, fDSet, fRg3, fChV, fSortL, frL, frS, fSortB, sRem, sqAt, eIxI, fItm, fItV, chS, sItC, sItA, sItI, sItS, fTmp, Sl.mut, Sl.th, O.d, sqD, D.atm, sTryR, fSq, aConsF, aNilF, eO, sTgF, setFd, Fd.sl, opJoinRev, fLRev, runDef, runDefI, ioAt, insA, chL, getO, setO, getL, setL, obAt, eFd, eFV, eFB, fFld, fMeth, fMethI, fMake, fCallI, aHere, fIsO, sFldS, setF, Rs.fd, Fd.d, O.d, fMethD, chF, sAppF, fPopF, fPop0, fPop1, sIns, sRetI, sRetNI, fZip, fML, opAny, opAll, opSorted, opMaxL, opMinL, opRfind, opCount, List.map_cons, List.map_nil, cInA, cNinA, inD, itD, fItA, eItA, cLtA, cLeA, fRr1, fRr2, opInt, sPar, fCallD, fRaise0, fRaise1, sTryAs, sTry, aftr, noX, allEq_const, fXf, fXi, fLc, lcL, unE, tYs, Vs.ret, xLock, inis, bof, sNil, sSeq, sAsg, sRet, sRetV, sRetN, sIf, sDrop, sTg, sFor, sBrk, sCnt, sApp, sExt, sOwn, sSetI, opSetI, sLock, unlk, sbnd, bnd, fOp, fCh, fCl, fCall, fLst, fTup, fSl, fIf, fAnd, fOr, fNot, fTru, fAndV, fOrV, fNotV, fNeg, fIsi, fM1, fM2, fRg1, fRg2, fEn, fRev, fSg, fTp, fIt, eIt, eB, eV, eC, frz, shm, aCons, aNil, poN, poS, Rs.d, Rs.sl, vB, List.cons_append, List.nil_append, List.append_nil, List.replicate_zero, List.replicate_succ, List.getElem?_cons_zero, List.getElem?_cons_succ, List.set_cons_zero, List.set_cons_succ, List.length_cons, List.length_nil, opLen, lenD, opList, opAdd, opSub, opMul, opMod, opDiv, opPow, opMin, opMax, opIx, opSl, cmpB, cEq, cNe, cIsN, cNotN, truD, tgN, tgT, setAll, isKd, opFind, opFind3, opStarts, opStarts3, Nat.reduceLT, Nat.reduceAdd, Nat.reduceSub, Nat.reduceLeDiff, Int.reduceLT, Int.reduceLE, Int.reduceNeg, reduceIte, and_self, true_and, and_true, decide_true, decide_false, Int.toNat_natCast, gs_first, fi, h0]; exact rfl) ?_
  refine fin_seq f2 ?_
  simp (disch := first | omega | assumption) only [if_pos, if_neg, decide_eq_true, decide_eq_false, atI_of, cutL_take, cutL_drop, cutL_mid, ge_iff_le, gt_iff_lt, Int.reduceToNat, Int.toNat_zero, Int.toNat_one, Bool.not_true, Bool.not_false, szl, D.key, fDNew, fDGet, sDPutV, fDSet, fRg3, fChV, fSortL, frL, frS, fSortB, sRem, sqAt, eIxI, fItm, fItV, chS, sItC, sItA, sItI, sItS, fTmp, Sl.mut, Sl.th, O.d, sqD, D.atm, sTryR, fSq, aConsF, aNilF, eO, sTgF, setFd, Fd.sl, opJoinRev, fLRev, runDef, runDefI, ioAt, insA, chL, getO, setO, getL, setL, obAt, eFd, eFV, eFB, fFld, fMeth, fMethI, fMake, fCallI, aHere, fIsO, sFldS, setF, Rs.fd, Fd.d, O.d, fMethD, chF, sAppF, fPopF, fPop0, fPop1, sIns, sRetI, sRetNI, fZip, fML, opAny, opAll, opSorted, opMaxL, opMinL, opRfind, opCount, List.map_cons, List.map_nil, cInA, cNinA, inD, itD, fItA, eItA, cLtA, cLeA, fRr1, fRr2, opInt, sPar, fCallD, fRaise0, fRaise1, sTryAs, sTry, aftr, noX, allEq_const, fXf, fXi, fLc, lcL, unE, tYs, Vs.ret, xLock, inis, bof, sNil, sSeq, sAsg, sRet, sRetV, sRetN, sIf, sDrop, sTg, sFor, sBrk, sCnt, sApp, sExt, sOwn, sSetI, opSetI, sLock, unlk, sbnd, bnd, fOp, fCh, fCl, fCall, fLst, fTup, fSl, fIf, fAnd, fOr, fNot, fTru, fAndV, fOrV, fNotV, fNeg, fIsi, fM1, fM2, fRg1, fRg2, fEn, fRev, fSg, fTp, fIt, eIt, eB, eV, eC, frz, shm, aCons, aNil, poN, poS, Rs.d, Rs.sl, vB, List.cons_append, List.nil_append, List.append_nil, List.replicate_zero, List.replicate_succ, List.getElem?_cons_zero, List.getElem?_cons_succ, List.set_cons_zero, List.set_cons_succ, List.length_cons, List.length_nil, opLen, lenD, opList, opAdd, opSub, opMul, opMod, opDiv, opPow, opMin, opMax, opIx, opSl, cmpB, cEq, cNe, cIsN, cNotN, truD, tgN, tgT, setAll, isKd, opFind, opFind3, opStarts, opStarts3, Nat.reduceLT, Nat.reduceAdd, Nat.reduceSub, Nat.reduceLeDiff, Int.reduceLT, Int.reduceLE, Int.reduceNeg, reduceIte, and_self, true_and, and_true, decide_true, decide_false, Int.toNat_natCast, gs_first, fi, fld_pacts, ci]
  rfl

/-! a text in a list of texts -/
theorem in_strs (v : List Nat) (M : List (List Nat)) : cIn (.str v) (.lst (strD M)) = some (decide (v ∈ M)) := by
  have all : (strD M).all D.fl = true := by
    rw [List.all_eq_true]
    intro d hd
    obtain ⟨x, _, rfl⟩ := List.mem_map.mp hd
    rfl
  have any : ((strD M).any fun y => y.feq (.str v)) = decide (v ∈ M) := by
    unfold strD
    rw [List.any_map, Bool.eq_iff_iff, List.any_eq_true, decide_eq_true_eq]
    constructor
    · rintro ⟨x, hx, e⟩
      have e : (D.str x).feq (.str v) = true := e
      rw [feq_str, decide_eq_true_eq] at e
      rw [← e]
      exact hx
    · intro h
      exact ⟨v, h, by show (D.str v).feq (.str v) = true; rw [feq_str]; exact decide_eq_true rfl⟩
  have q : cIn (.str v) (.lst (strD M)) = if (D.str v).fl = true ∧ (strD M).all D.fl = true then some ((strD M).any fun y => y.feq (.str v)) else none := by
    rcases v with _ | ⟨c, _ | ⟨d, v⟩⟩ <;> rfl
  rw [q, if_pos ⟨rfl, all⟩, any]

/-! k27 -/
theorem e_due_last {ws : List (List Nat)} {la : Nat → Nat} (hla : Las ws la) (hl : ws.length ≤ 1000) {a : Nat} (ha : a < ws.length) (S : List D) (acc : Sl) (s5 : Sl) (Ax : Int) (hA : Ax = (a : Int)) : ∃ t5, forL (tgN 5) l1_law_due (rng Ax (ws.length - a)) [.bo S, .bo (strD ws), acc, .sh (.int Ax), .sh (.int Ax), s5] = some (.nx [.bo S, .bo (strD ws), acc, .sh (.int Ax), .sh (.int ((la a : Nat) : Int)), t5]) := by
  obtain ⟨y, hy⟩ : ∃ y, ws[a]? = some y := ⟨_, List.getElem?_eq_getElem ha⟩
  have gy := str_at hy
  have hAt : Ax.toNat = a := by omega
  obtain ⟨e', g1, j, t5, rfl, h1, h2, h3, h4⟩ := forL_inv (tg := tgN 5) (body := l1_law_due) (fun i e => ∃ (j : Nat) (s5 : Sl), e = [.bo S, .bo (strD ws), acc, .sh (.int Ax), .sh (.int (j : Int)), s5] ∧ j < ws.length ∧ a ≤ j ∧ ws[j]? = ws[a]? ∧ ∀ m, j < m → m < a + i → ws[m]? ≠ ws[a]?)
    (rng Ax (ws.length - a)) [.bo S, .bo (strD ws), acc, .sh (.int Ax), .sh (.int Ax), s5] ⟨a, s5, by rw [hA], ha, Nat.le_refl _, rfl, fun m h1 h2 => by omega⟩ (fun i d e hd ⟨j, s5, he, h1, h2, h3, h4⟩ => by
      obtain ⟨hi, rfl⟩ := rng_get hd
      subst he
      refine ⟨_, rfl, ?_⟩
      obtain ⟨x, hx⟩ : ∃ x, ws[a + i]? = some x := ⟨_, List.getElem?_eq_getElem (by omega)⟩
      have gx := str_at hx
      obtain ⟨K, hK⟩ : ∃ K : Int, K = Ax + (i : Int) := ⟨_, rfl⟩
      rw [← hK]
      have hKt : K.toNat = a + i := by omega
      unfold l1_law_due i1_law_due
      by_cases q : x = y
      · refine ⟨[.bo S, .bo (strD ws), acc, .sh (.int Ax), .sh (.int K), .sh (.int K)], ?_, a + i, _, by rw [show ((a + i : Nat) : Int) = K by omega], by omega, by omega, by rw [hx, hy, q], fun m a b => by omega⟩
        simp (disch := first | omega | assumption) only [if_pos, if_neg, decide_eq_true, decide_eq_false, atI_of, cutL_take, cutL_drop, cutL_mid, ge_iff_le, gt_iff_lt, Int.reduceToNat, Int.toNat_zero, Int.toNat_one, Bool.not_true, Bool.not_false, szl, D.key, fDNew, fDGet, sDPutV, fDSet, fRg3, fChV, fSortL, frL, frS, fSortB, sRem, sqAt, eIxI, fItm, fItV, chS, sItC, sItA, sItI, sItS, fTmp, Sl.mut, Sl.th, O.d, sqD, D.atm, sTryR, fSq, aConsF, aNilF, eO, sTgF, setFd, Fd.sl, opJoinRev, fLRev, runDef, runDefI, ioAt, insA, chL, getO, setO, getL, setL, obAt, eFd, eFV, eFB, fFld, fMeth, fMethI, fMake, fCallI, aHere, fIsO, sFldS, setF, Rs.fd, Fd.d, O.d, fMethD, chF, sAppF, fPopF, fPop0, fPop1, sIns, sRetI, sRetNI, fZip, fML, opAny, opAll, opSorted, opMaxL, opMinL, opRfind, opCount, List.map_cons, List.map_nil, cInA, cNinA, inD, itD, fItA, eItA, cLtA, cLeA, fRr1, fRr2, opInt, sPar, fCallD, fRaise0, fRaise1, sTryAs, sTry, aftr, noX, allEq_const, fXf, fXi, fLc, lcL, unE, tYs, Vs.ret, xLock, inis, bof, sNil, sSeq, sAsg, sRet, sRetV, sRetN, sIf, sDrop, sTg, sFor, sBrk, sCnt, sApp, sExt, sOwn, sSetI, opSetI, sLock, unlk, sbnd, bnd, fOp, fCh, fCl, fCall, fLst, fTup, fSl, fIf, fAnd, fOr, fNot, fTru, fAndV, fOrV, fNotV, fNeg, fIsi, fM1, fM2, fRg1, fRg2, fEn, fRev, fSg, fTp, fIt, eIt, eB, eV, eC, frz, shm, aCons, aNil, poN, poS, Rs.d, Rs.sl, vB, List.cons_append, List.nil_append, List.append_nil, List.replicate_zero, List.replicate_succ, List.getElem?_cons_zero, List.getElem?_cons_succ, List.set_cons_zero, List.set_cons_succ, List.length_cons, List.length_nil, opLen, lenD, opList, opAdd, opSub, opMul, opMod, opDiv, opPow, opMin, opMax, opIx, opSl, cmpB, cEq, cNe, cIsN, cNotN, truD, tgN, tgT, setAll, isKd, opFind, opFind3, opStarts, opStarts3, Nat.reduceLT, Nat.reduceAdd, Nat.reduceSub, Nat.reduceLeDiff, Int.reduceLT, Int.reduceLE, Int.reduceNeg, reduceIte, and_self, true_and, and_true, decide_true, decide_false, Int.toNat_natCast, hKt, gx, hAt, gy, decide_eq_true q]
      · refine ⟨[.bo S, .bo (strD ws), acc, .sh (.int Ax), .sh (.int (j : Int)), .sh (.int K)], ?_, j, _, rfl, h1, h2, h3, fun m m1 m2 => ?_⟩
        · simp (disch := first | omega | assumption) only [if_pos, if_neg, decide_eq_true, decide_eq_false, atI_of, cutL_take, cutL_drop, cutL_mid, ge_iff_le, gt_iff_lt, Int.reduceToNat, Int.toNat_zero, Int.toNat_one, Bool.not_true, Bool.not_false, szl, D.key, fDNew, fDGet, sDPutV, fDSet, fRg3, fChV, fSortL, frL, frS, fSortB, sRem, sqAt, eIxI, fItm, fItV, chS, sItC, sItA, sItI, sItS, fTmp, Sl.mut, Sl.th, O.d, sqD, D.atm, sTryR, fSq, aConsF, aNilF, eO, sTgF, setFd, Fd.sl, opJoinRev, fLRev, runDef, runDefI, ioAt, insA, chL, getO, setO, getL, setL, obAt, eFd, eFV, eFB, fFld, fMeth, fMethI, fMake, fCallI, aHere, fIsO, sFldS, setF, Rs.fd, Fd.d, O.d, fMethD, chF, sAppF, fPopF, fPop0, fPop1, sIns, sRetI, sRetNI, fZip, fML, opAny, opAll, opSorted, opMaxL, opMinL, opRfind, opCount, List.map_cons, List.map_nil, cInA, cNinA, inD, itD, fItA, eItA, cLtA, cLeA, fRr1, fRr2, opInt, sPar, fCallD, fRaise0, fRaise1, sTryAs, sTry, aftr, noX, allEq_const, fXf, fXi, fLc, lcL, unE, tYs, Vs.ret, xLock, inis, bof, sNil, sSeq, sAsg, sRet, sRetV, sRetN, sIf, sDrop, sTg, sFor, sBrk, sCnt, sApp, sExt, sOwn, sSetI, opSetI, sLock, unlk, sbnd, bnd, fOp, fCh, fCl, fCall, fLst, fTup, fSl, fIf, fAnd, fOr, fNot, fTru, fAndV, fOrV, fNotV, fNeg, fIsi, fM1, fM2, fRg1, fRg2, fEn, fRev, fSg, fTp, fIt, eIt, eB, eV, eC, frz, shm, aCons, aNil, poN, poS, Rs.d, Rs.sl, vB, List.cons_append, List.nil_append, List.append_nil, List.replicate_zero, List.replicate_succ, List.getElem?_cons_zero, List.getElem?_cons_succ, List.set_cons_zero, List.set_cons_succ, List.length_cons, List.length_nil, opLen, lenD, opList, opAdd, opSub, opMul, opMod, opDiv, opPow, opMin, opMax, opIx, opSl, cmpB, cEq, cNe, cIsN, cNotN, truD, tgN, tgT, setAll, isKd, opFind, opFind3, opStarts, opStarts3, Nat.reduceLT, Nat.reduceAdd, Nat.reduceSub, Nat.reduceLeDiff, Int.reduceLT, Int.reduceLE, Int.reduceNeg, reduceIte, and_self, true_and, and_true, decide_true, decide_false, Int.toNat_natCast, hKt, gx, hAt, gy, decide_eq_false q]
        · by_cases z : m = a + i
          · subst z
            rw [hx, hy]
            exact fun e => q (Option.some.inj e)
          · exact h4 m m1 (by omega))
  rw [rng_len] at h4
  have : LastAt ws a j := ⟨h1, h3, fun m a b => h4 m a (by omega)⟩
  rw [last_uniq (hla a ha) this]
  exact ⟨t5, g1⟩
theorem e_due_while {ps : Pct} {w : List Nat} {ss : List Stp} {la : Nat → Nat} (hla : Las (wds ps w ss) la) (hl : ss.length ≤ 900) :
    ∀ (f N a : Nat) (acc : List Stp) (s4 s5 : Sl), ss.length + 1 - a ≤ f → a ≤ ss.length → f < N → acc.length + f ≤ 10000 → ∃ t3 t4 t5, whL N w2_law_due l2_law_due [.bo (stL ss), .bo (strD (wds ps w ss)), .ow (stL acc), .sh (.int (a : Int)), s4, s5] = some (.nx [.bo (stL ss), .bo (strD (wds ps w ss)), .ow (stL (acc ++ dueS la ss f a)), t3, t4, t5])
  | 0, N, a, acc, s4, s5, h1, h2, _, _ => by omega
  | f + 1, 0, a, acc, s4, s5, _, _, h3, _ => by omega
  | f + 1, N + 1, a, acc, s4, s5, h1, h2, h3, h4 => by
    have wl := wds_len ps ss w
    have h := hla a (by omega)
    have ge := last_ge h (by omega)
    have sl := stL_len ss
    have swl : (strD (wds ps w ss)).length = ss.length + 1 := by rw [strD_len, wl]
    obtain ⟨y, hy⟩ : ∃ y, (wds ps w ss)[a]? = some y := ⟨_, List.getElem?_eq_getElem (by omega)⟩
    have gy := str_at hy
    have gz := str_last ps w ss
    have hz := wds_last ps ss w
    obtain ⟨Ax, hA⟩ : ∃ Ax : Int, Ax = (a : Int) := ⟨_, rfl⟩
    have hAt : Ax.toNat = a := by omega
    obtain ⟨z, hzz⟩ : ∃ z, z = endW ps w ss := ⟨_, rfl⟩
    rw [← hzz] at gz hz
    rw [← hA]
    have test : w2_law_due [.bo (stL ss), .bo (strD (wds ps w ss)), .ow (stL acc), .sh (.int Ax), s4, s5] = some (.ok (!decide (y = z)) [.bo (stL ss), .bo (strD (wds ps w ss)), .ow (stL acc), .sh (.int Ax), s4, s5]) := by
      unfold w2_law_due
      simp (disch := first | omega | assumption) only [if_pos, if_neg, decide_eq_true, decide_eq_false, atI_of, cutL_take, cutL_drop, cutL_mid, ge_iff_le, gt_iff_lt, Int.reduceToNat, Int.toNat_zero, Int.toNat_one, Bool.not_true, Bool.not_false, szl, D.key, fDNew, fDGet, sDPutV, fDSet, fRg3, fChV, fSortL, frL, frS, fSortB, sRem, sqAt, eIxI, fItm, fItV, chS, sItC, sItA, sItI, sItS, fTmp, Sl.mut, Sl.th, O.d, sqD, D.atm, sTryR, fSq, aConsF, aNilF, eO, sTgF, setFd, Fd.sl, opJoinRev, fLRev, runDef, runDefI, ioAt, insA, chL, getO, setO, getL, setL, obAt, eFd, eFV, eFB, fFld, fMeth, fMethI, fMake, fCallI, aHere, fIsO, sFldS, setF, Rs.fd, Fd.d, O.d, fMethD, chF, sAppF, fPopF, fPop0, fPop1, sIns, sRetI, sRetNI, fZip, fML, opAny, opAll, opSorted, opMaxL, opMinL, opRfind, opCount, List.map_cons, List.map_nil, cInA, cNinA, inD, itD, fItA, eItA, cLtA, cLeA, fRr1, fRr2, opInt, sPar, fCallD, fRaise0, fRaise1, sTryAs, sTry, aftr, noX, allEq_const, fXf, fXi, fLc, lcL, unE, tYs, Vs.ret, xLock, inis, bof, sNil, sSeq, sAsg, sRet, sRetV, sRetN, sIf, sDrop, sTg, sFor, sBrk, sCnt, sApp, sExt, sOwn, sSetI, opSetI, sLock, unlk, sbnd, bnd, fOp, fCh, fCl, fCall, fLst, fTup, fSl, fIf, fAnd, fOr, fNot, fTru, fAndV, fOrV, fNotV, fNeg, fIsi, fM1, fM2, fRg1, fRg2, fEn, fRev, fSg, fTp, fIt, eIt, eB, eV, eC, frz, shm, aCons, aNil, poN, poS, Rs.d, Rs.sl, vB, List.cons_append, List.nil_append, List.append_nil, List.replicate_zero, List.replicate_succ, List.getElem?_cons_zero, List.getElem?_cons_succ, List.set_cons_zero, List.set_cons_succ, List.length_cons, List.length_nil, opLen, lenD, opList, opAdd, opSub, opMul, opMod, opDiv, opPow, opMin, opMax, opIx, opSl, cmpB, cEq, cNe, cIsN, cNotN, truD, tgN, tgT, setAll, isKd, opFind, opFind3, opStarts, opStarts3, Nat.reduceLT, Nat.reduceAdd, Nat.reduceSub, Nat.reduceLeDiff, Int.reduceLT, Int.reduceLE, Int.reduceNeg, reduceIte, and_self, true_and, and_true, decide_true, decide_false, Int.toNat_natCast, hAt, gy, gz]
    unfold whL sbnd
    rw [test, dueS]
    cases q : ss[la a]? with
    | none =>
      have hge := List.getElem?_eq_none_iff.mp q
      have e : la a = ss.length := by have := h.lt; omega
      have e2 := h.eq
      rw [e, hz, hy] at e2
      rw [decide_eq_true (Option.some.inj e2).symm]
      dsimp only [Bool.not_true]
      rw [List.append_nil]
      exact ⟨_, _, _, rfl⟩
    | some s =>
      have hlt := (List.getElem?_eq_some_iff.mp q).1
      have ne : ¬ y = z := fun e => by
        refine h.no ss.length hlt (by omega) ?_
        rw [hz, hy, e]
      rw [decide_eq_false ne]
      dsimp only [Bool.not_false]
      obtain ⟨p, hp⟩ : ∃ p : Nat, p = la a := ⟨_, rfl⟩
      obtain ⟨Px, hP⟩ : ∃ Px : Int, Px = (p : Int) := ⟨_, rfl⟩
      have hPt : Px.toNat = p := by omega
      rw [← hp] at q hlt ⊢
      have g1 : (stL ss)[p]? = some (stD s) := by unfold stL; rw [List.getElem?_map, q]; rfl
      have al : (stL acc).length < 1000000 := by rw [stL_len]; omega
      obtain ⟨t5, f1⟩ := e_due_last hla (by omega) (show a < (wds ps w ss).length by omega) (stL ss) (.ow (stL acc)) s5 Ax hA
      rw [← hp, ← hP] at f1
      obtain ⟨u3, u4, u5, ih⟩ := e_due_while hla hl f N (p + 1) (acc ++ [s]) (.sh (.int Px)) t5 (by omega) (by omega) (by omega) (by rw [List.length_append, List.length_singleton]; omega)
      have e5 : stL acc ++ [stD s] = stL (acc ++ [s]) := by unfold stL; rw [List.map_append]; rfl
      have rn : (((wds ps w ss).length : Int) - Ax).toNat = (wds ps w ss).length - a := by omega
      have rn2 : (((ss.length + 1 : Nat) : Int) - Ax).toNat = (wds ps w ss).length - a := by omega
      have b0 : Ax ≤ 1000000 ∧ -1000000 ≤ Ax := by omega
      have b1 : ((ss.length + 1 : Nat) : Int) ≤ 1000000 ∧ (-1000000 : Int) ≤ ((ss.length + 1 : Nat) : Int) := by omega
      have body : l2_law_due [.bo (stL ss), .bo (strD (wds ps w ss)), .ow (stL acc), .sh (.int Ax), s4, s5] = some (.nx [.bo (stL ss), .bo (strD (wds ps w ss)), .ow (stL (acc ++ [s])), .sh (.int ((p + 1 : Nat) : Int)), .sh (.int Px), t5]) := by
        unfold l2_law_due
        rw [show ((p + 1 : Nat) : Int) = Px + 1 by omega]
        refine seq_nx (by simp (disch := first | omega | assumption) only [if_pos, if_neg, decide_eq_true, decide_eq_false, atI_of, cutL_take, cutL_drop, cutL_mid, ge_iff_le, gt_iff_lt, Int.reduceToNat, Int.toNat_zero, Int.toNat_one, Bool.not_true, Bool.not_false, szl, D.key, fDNew, fDGet, sDPutV, fDSet, fRg3, fChV, fSortL, frL, frS, fSortB, sRem, sqAt, eIxI, fItm, fItV, chS, sItC, sItA, sItI, sItS, fTmp, Sl.mut, Sl.th, O.d, sqD, D.atm, sTryR, fSq, aConsF, aNilF, eO, sTgF, setFd, Fd.sl, opJoinRev, fLRev, runDef, runDefI, ioAt, insA, chL, getO, setO, getL, setL, obAt, eFd, eFV, eFB, fFld, fMeth, fMethI, fMake, fCallI, aHere, fIsO, sFldS, setF, Rs.fd, Fd.d, O.d, fMethD, chF, sAppF, fPopF, fPop0, fPop1, sIns, sRetI, sRetNI, fZip, fML, opAny, opAll, opSorted, opMaxL, opMinL, opRfind, opCount, List.map_cons, List.map_nil, cInA, cNinA, inD, itD, fItA, eItA, cLtA, cLeA, fRr1, fRr2, opInt, sPar, fCallD, fRaise0, fRaise1, sTryAs, sTry, aftr, noX, allEq_const, fXf, fXi, fLc, lcL, unE, tYs, Vs.ret, xLock, inis, bof, sNil, sSeq, sAsg, sRet, sRetV, sRetN, sIf, sDrop, sTg, sFor, sBrk, sCnt, sApp, sExt, sOwn, sSetI, opSetI, sLock, unlk, sbnd, bnd, fOp, fCh, fCl, fCall, fLst, fTup, fSl, fIf, fAnd, fOr, fNot, fTru, fAndV, fOrV, fNotV, fNeg, fIsi, fM1, fM2, fRg1, fRg2, fEn, fRev, fSg, fTp, fIt, eIt, eB, eV, eC, frz, shm, aCons, aNil, poN, poS, Rs.d, Rs.sl, vB, List.cons_append, List.nil_append, List.append_nil, List.replicate_zero, List.replicate_succ, List.getElem?_cons_zero, List.getElem?_cons_succ, List.set_cons_zero, List.set_cons_succ, List.length_cons, List.length_nil, opLen, lenD, opList, opAdd, opSub, opMul, opMod, opDiv, opPow, opMin, opMax, opIx, opSl, cmpB, cEq, cNe, cIsN, cNotN, truD, tgN, tgT, setAll, isKd, opFind, opFind3, opStarts, opStarts3, Nat.reduceLT, Nat.reduceAdd, Nat.reduceSub, Nat.reduceLeDiff, Int.reduceLT, Int.reduceLE, Int.reduceNeg, reduceIte, and_self, true_and, and_true, decide_true, decide_false, Int.toNat_natCast, ]; exact rfl) ?_
        refine seq_nx (by simp (disch := first | omega | assumption) only [if_pos, if_neg, decide_eq_true, decide_eq_false, atI_of, cutL_take, cutL_drop, cutL_mid, ge_iff_le, gt_iff_lt, Int.reduceToNat, Int.toNat_zero, Int.toNat_one, Bool.not_true, Bool.not_false, szl, D.key, fDNew, fDGet, sDPutV, fDSet, fRg3, fChV, fSortL, frL, frS, fSortB, sRem, sqAt, eIxI, fItm, fItV, chS, sItC, sItA, sItI, sItS, fTmp, Sl.mut, Sl.th, O.d, sqD, D.atm, sTryR, fSq, aConsF, aNilF, eO, sTgF, setFd, Fd.sl, opJoinRev, fLRev, runDef, runDefI, ioAt, insA, chL, getO, setO, getL, setL, obAt, eFd, eFV, eFB, fFld, fMeth, fMethI, fMake, fCallI, aHere, fIsO, sFldS, setF, Rs.fd, Fd.d, O.d, fMethD, chF, sAppF, fPopF, fPop0, fPop1, sIns, sRetI, sRetNI, fZip, fML, opAny, opAll, opSorted, opMaxL, opMinL, opRfind, opCount, List.map_cons, List.map_nil, cInA, cNinA, inD, itD, fItA, eItA, cLtA, cLeA, fRr1, fRr2, opInt, sPar, fCallD, fRaise0, fRaise1, sTryAs, sTry, aftr, noX, allEq_const, fXf, fXi, fLc, lcL, unE, tYs, Vs.ret, xLock, inis, bof, sNil, sSeq, sAsg, sRet, sRetV, sRetN, sIf, sDrop, sTg, sFor, sBrk, sCnt, sApp, sExt, sOwn, sSetI, opSetI, sLock, unlk, sbnd, bnd, fOp, fCh, fCl, fCall, fLst, fTup, fSl, fIf, fAnd, fOr, fNot, fTru, fAndV, fOrV, fNotV, fNeg, fIsi, fM1, fM2, fRg1, fRg2, fEn, fRev, fSg, fTp, fIt, eIt, eB, eV, eC, frz, shm, aCons, aNil, poN, poS, Rs.d, Rs.sl, vB, List.cons_append, List.nil_append, List.append_nil, List.replicate_zero, List.replicate_succ, List.getElem?_cons_zero, List.getElem?_cons_succ, List.set_cons_zero, List.set_cons_succ, List.length_cons, List.length_nil, opLen, lenD, opList, opAdd, opSub, opMul, opMod, opDiv, opPow, opMin, opMax, opIx, opSl, cmpB, cEq, cNe, cIsN, cNotN, truD, tgN, tgT, setAll, isKd, opFind, opFind3, opStarts, opStarts3, Nat.reduceLT, Nat.reduceAdd, Nat.reduceSub, Nat.reduceLeDiff, Int.reduceLT, Int.reduceLE, Int.reduceNeg, reduceIte, and_self, true_and, and_true, decide_true, decide_false, Int.toNat_natCast, swl, rn2, f1]; exact rfl) ?_
        refine seq_nx (by simp (disch := first | omega | assumption) only [if_pos, if_neg, decide_eq_true, decide_eq_false, atI_of, cutL_take, cutL_drop, cutL_mid, ge_iff_le, gt_iff_lt, Int.reduceToNat, Int.toNat_zero, Int.toNat_one, Bool.not_true, Bool.not_false, szl, D.key, fDNew, fDGet, sDPutV, fDSet, fRg3, fChV, fSortL, frL, frS, fSortB, sRem, sqAt, eIxI, fItm, fItV, chS, sItC, sItA, sItI, sItS, fTmp, Sl.mut, Sl.th, O.d, sqD, D.atm, sTryR, fSq, aConsF, aNilF, eO, sTgF, setFd, Fd.sl, opJoinRev, fLRev, runDef, runDefI, ioAt, insA, chL, getO, setO, getL, setL, obAt, eFd, eFV, eFB, fFld, fMeth, fMethI, fMake, fCallI, aHere, fIsO, sFldS, setF, Rs.fd, Fd.d, O.d, fMethD, chF, sAppF, fPopF, fPop0, fPop1, sIns, sRetI, sRetNI, fZip, fML, opAny, opAll, opSorted, opMaxL, opMinL, opRfind, opCount, List.map_cons, List.map_nil, cInA, cNinA, inD, itD, fItA, eItA, cLtA, cLeA, fRr1, fRr2, opInt, sPar, fCallD, fRaise0, fRaise1, sTryAs, sTry, aftr, noX, allEq_const, fXf, fXi, fLc, lcL, unE, tYs, Vs.ret, xLock, inis, bof, sNil, sSeq, sAsg, sRet, sRetV, sRetN, sIf, sDrop, sTg, sFor, sBrk, sCnt, sApp, sExt, sOwn, sSetI, opSetI, sLock, unlk, sbnd, bnd, fOp, fCh, fCl, fCall, fLst, fTup, fSl, fIf, fAnd, fOr, fNot, fTru, fAndV, fOrV, fNotV, fNeg, fIsi, fM1, fM2, fRg1, fRg2, fEn, fRev, fSg, fTp, fIt, eIt, eB, eV, eC, frz, shm, aCons, aNil, poN, poS, Rs.d, Rs.sl, vB, List.cons_append, List.nil_append, List.append_nil, List.replicate_zero, List.replicate_succ, List.getElem?_cons_zero, List.getElem?_cons_succ, List.set_cons_zero, List.set_cons_succ, List.length_cons, List.length_nil, opLen, lenD, opList, opAdd, opSub, opMul, opMod, opDiv, opPow, opMin, opMax, opIx, opSl, cmpB, cEq, cNe, cIsN, cNotN, truD, tgN, tgT, setAll, isKd, opFind, opFind3, opStarts, opStarts3, Nat.reduceLT, Nat.reduceAdd, Nat.reduceSub, Nat.reduceLeDiff, Int.reduceLT, Int.reduceLE, Int.reduceNeg, reduceIte, and_self, true_and, and_true, decide_true, decide_false, Int.toNat_natCast, hPt, g1, e5]; exact rfl) ?_
        simp (disch := first | omega | assumption) only [if_pos, if_neg, decide_eq_true, decide_eq_false, atI_of, cutL_take, cutL_drop, cutL_mid, ge_iff_le, gt_iff_lt, Int.reduceToNat, Int.toNat_zero, Int.toNat_one, Bool.not_true, Bool.not_false, szl, D.key, fDNew, fDGet, sDPutV, fDSet, fRg3, fChV, fSortL, frL, frS, fSortB, sRem, sqAt, eIxI, fItm, fItV, chS, sItC, sItA, sItI, sItS, fTmp, Sl.mut, Sl.th, O.d, sqD, D.atm, sTryR, fSq, aConsF, aNilF, eO, sTgF, setFd, Fd.sl, opJoinRev, fLRev, runDef, runDefI, ioAt, insA, chL, getO, setO, getL, setL, obAt, eFd, eFV, eFB, fFld, fMeth, fMethI, fMake, fCallI, aHere, fIsO, sFldS, setF, Rs.fd, Fd.d, O.d, fMethD, chF, sAppF, fPopF, fPop0, fPop1, sIns, sRetI, sRetNI, fZip, fML, opAny, opAll, opSorted, opMaxL, opMinL, opRfind, opCount, List.map_cons, List.map_nil, cInA, cNinA, inD, itD, fItA, eItA, cLtA, cLeA, fRr1, fRr2, opInt, sPar, fCallD, fRaise0, fRaise1, sTryAs, sTry, aftr, noX, allEq_const, fXf, fXi, fLc, lcL, unE, tYs, Vs.ret, xLock, inis, bof, sNil, sSeq, sAsg, sRet, sRetV, sRetN, sIf, sDrop, sTg, sFor, sBrk, sCnt, sApp, sExt, sOwn, sSetI, opSetI, sLock, unlk, sbnd, bnd, fOp, fCh, fCl, fCall, fLst, fTup, fSl, fIf, fAnd, fOr, fNot, fTru, fAndV, fOrV, fNotV, fNeg, fIsi, fM1, fM2, fRg1, fRg2, fEn, fRev, fSg, fTp, fIt, eIt, eB, eV, eC, frz, shm, aCons, aNil, poN, poS, Rs.d, Rs.sl, vB, List.cons_append, List.nil_append, List.append_nil, List.replicate_zero, List.replicate_succ, List.getElem?_cons_zero, List.getElem?_cons_succ, List.set_cons_zero, List.set_cons_succ, List.length_cons, List.length_nil, opLen, lenD, opList, opAdd, opSub, opMul, opMod, opDiv, opPow, opMin, opMax, opIx, opSl, cmpB, cEq, cNe, cIsN, cNotN, truD, tgN, tgT, setAll, isKd, opFind, opFind3, opStarts, opStarts3, Nat.reduceLT, Nat.reduceAdd, Nat.reduceSub, Nat.reduceLeDiff, Int.reduceLT, Int.reduceLE, Int.reduceNeg, reduceIte, and_self, true_and, and_true, decide_true, decide_false, Int.toNat_natCast]
      rw [body]
      dsimp only
      refine ⟨u3, u4, u5, ?_⟩
      rw [ih, List.append_assoc]
      rfl
theorem e_ldue {ps : Pct} {w : List Nat} {ss : List Stp} {la : Nat → Nat} (hla : Las (wds ps w ss) la) (hl : ss.length ≤ 900) : g_law_due [.lst (stL ss), .lst (strD (wds ps w ss))] = some (.rt (.ow (stL (dueS la ss (ss.length + 1) 0)))) := by
  obtain ⟨t3, t4, t5, f2⟩ := e_due_while hla hl (ss.length + 1) fuel 0 [] .un .un (by omega) (by omega) (lt_fuel (by omega)) (by rw [List.length_nil]; omega)
  rw [List.nil_append] at f2
  unfold g_law_due b_law_due
  refine run_fin ?_
  refine fin_seq (by simp (disch := first | omega | assumption) only [if_pos, if_neg, decide_eq_true, decide_eq_false, atI_of, cutL_take, cutL_drop, cutL_mid, ge_iff_le, gt_iff_lt, Int.reduceToNat, Int.toNat_zero, Int.toNat_one, Bool.not_true, Bool.not_false, szl, D.key, fDNew, fDGet, sDPutV, fDSet, fRg3, fChV, fSortL, frL, frS, fSortB, sRem, sqAt, eIxI, fItm, fItV, chS, sItC, sItA, sItI, sItS, fTmp, Sl.mut, Sl.th, O.d, sqD, D.atm, sTryR, fSq, aConsF, aNilF, eO, sTgF, setFd, Fd.sl, opJoinRev, fLRev, runDef, runDefI, ioAt, insA, chL, getO, setO, getL, setL, obAt, eFd, eFV, eFB, fFld, fMeth, fMethI, fMake, fCallI, aHere, fIsO, sFldS, setF, Rs.fd, Fd.d, O.d, fMethD, chF, sAppF, fPopF, fPop0, fPop1, sIns, sRetI, sRetNI, fZip, fML, opAny, opAll, opSorted, opMaxL, opMinL, opRfind, opCount, List.map_cons, List.map_nil, cInA, cNinA, inD, itD, fItA, eItA, cLtA, cLeA, fRr1, fRr2, opInt, sPar, fCallD, fRaise0, fRaise1, sTryAs, sTry, aftr, noX, allEq_const, fXf, fXi, fLc, lcL, unE, tYs, Vs.ret, xLock, inis, bof, sNil, sSeq, sAsg, sRet, sRetV, sRetN, sIf, sDrop, sTg, sFor, sBrk, sCnt, sApp, sExt, sOwn, sSetI, opSetI, sLock, unlk, sbnd, bnd, fOp, fCh, fCl, fCall, fLst, fTup, fSl, fIf, fAnd, fOr, fNot, fTru, fAndV, fOrV, fNotV, fNeg, fIsi, fM1, fM2, fRg1, fRg2, fEn, fRev, fSg, fTp, fIt, eIt, eB, eV, eC, frz, shm, aCons, aNil, poN, poS, Rs.d, Rs.sl, vB, List.cons_append, List.nil_append, List.append_nil, List.replicate_zero, List.replicate_succ, List.getElem?_cons_zero, List.getElem?_cons_succ, List.set_cons_zero, List.set_cons_succ, List.length_cons, List.length_nil, opLen, lenD, opList, opAdd, opSub, opMul, opMod, opDiv, opPow, opMin, opMax, opIx, opSl, cmpB, cEq, cNe, cIsN, cNotN, truD, tgN, tgT, setAll, isKd, opFind, opFind3, opStarts, opStarts3, Nat.reduceLT, Nat.reduceAdd, Nat.reduceSub, Nat.reduceLeDiff, Int.reduceLT, Int.reduceLE, Int.reduceNeg, reduceIte, and_self, true_and, and_true, decide_true, decide_false, Int.toNat_natCast, ]; exact rfl) ?_
  refine fin_seq (by simp (disch := first | omega | assumption) only [if_pos, if_neg, decide_eq_true, decide_eq_false, atI_of, cutL_take, cutL_drop, cutL_mid, ge_iff_le, gt_iff_lt, Int.reduceToNat, Int.toNat_zero, Int.toNat_one, Bool.not_true, Bool.not_false, szl, D.key, fDNew, fDGet, sDPutV, fDSet, fRg3, fChV, fSortL, frL, frS, fSortB, sRem, sqAt, eIxI, fItm, fItV, chS, sItC, sItA, sItI, sItS, fTmp, Sl.mut, Sl.th, O.d, sqD, D.atm, sTryR, fSq, aConsF, aNilF, eO, sTgF, setFd, Fd.sl, opJoinRev, fLRev, runDef, runDefI, ioAt, insA, chL, getO, setO, getL, setL, obAt, eFd, eFV, eFB, fFld, fMeth, fMethI, fMake, fCallI, aHere, fIsO, sFldS, setF, Rs.fd, Fd.d, O.d, fMethD, chF, sAppF, fPopF, fPop0, fPop1, sIns, sRetI, sRetNI, fZip, fML, opAny, opAll, opSorted, opMaxL, opMinL, opRfind, opCount, List.map_cons, List.map_nil, cInA, cNinA, inD, itD, fItA, eItA, cLtA, cLeA, fRr1, fRr2, opInt, sPar, fCallD, fRaise0, fRaise1, sTryAs, sTry, aftr, noX, allEq_const, fXf, fXi, fLc, lcL, unE, tYs, Vs.ret, xLock, inis, bof, sNil, sSeq, sAsg, sRet, sRetV, sRetN, sIf, sDrop, sTg, sFor, sBrk, sCnt, sApp, sExt, sOwn, sSetI, opSetI, sLock, unlk, sbnd, bnd, fOp, fCh, fCl, fCall, fLst, fTup, fSl, fIf, fAnd, fOr, fNot, fTru, fAndV, fOrV, fNotV, fNeg, fIsi, fM1, fM2, fRg1, fRg2, fEn, fRev, fSg, fTp, fIt, eIt, eB, eV, eC, frz, shm, aCons, aNil, poN, poS, Rs.d, Rs.sl, vB, List.cons_append, List.nil_append, List.append_nil, List.replicate_zero, List.replicate_succ, List.getElem?_cons_zero, List.getElem?_cons_succ, List.set_cons_zero, List.set_cons_succ, List.length_cons, List.length_nil, opLen, lenD, opList, opAdd, opSub, opMul, opMod, opDiv, opPow, opMin, opMax, opIx, opSl, cmpB, cEq, cNe, cIsN, cNotN, truD, tgN, tgT, setAll, isKd, opFind, opFind3, opStarts, opStarts3, Nat.reduceLT, Nat.reduceAdd, Nat.reduceSub, Nat.reduceLeDiff, Int.reduceLT, Int.reduceLE, Int.reduceNeg, reduceIte, and_self, true_and, and_true, decide_true, decide_false, Int.toNat_natCast, ]; exact rfl) ?_
  refine fin_seq f2 ?_
  simp (disch := first | omega | assumption) only [if_pos, if_neg, decide_eq_true, decide_eq_false, atI_of, cutL_take, cutL_drop, cutL_mid, ge_iff_le, gt_iff_lt, Int.reduceToNat, Int.toNat_zero, Int.toNat_one, Bool.not_true, Bool.not_false, szl, D.key, fDNew, fDGet, sDPutV, fDSet, fRg3, fChV, fSortL, frL, frS, fSortB, sRem, sqAt, eIxI, fItm, fItV, chS, sItC, sItA, sItI, sItS, fTmp, Sl.mut, Sl.th, O.d, sqD, D.atm, sTryR, fSq, aConsF, aNilF, eO, sTgF, setFd, Fd.sl, opJoinRev, fLRev, runDef, runDefI, ioAt, insA, chL, getO, setO, getL, setL, obAt, eFd, eFV, eFB, fFld, fMeth, fMethI, fMake, fCallI, aHere, fIsO, sFldS, setF, Rs.fd, Fd.d, O.d, fMethD, chF, sAppF, fPopF, fPop0, fPop1, sIns, sRetI, sRetNI, fZip, fML, opAny, opAll, opSorted, opMaxL, opMinL, opRfind, opCount, List.map_cons, List.map_nil, cInA, cNinA, inD, itD, fItA, eItA, cLtA, cLeA, fRr1, fRr2, opInt, sPar, fCallD, fRaise0, fRaise1, sTryAs, sTry, aftr, noX, allEq_const, fXf, fXi, fLc, lcL, unE, tYs, Vs.ret, xLock, inis, bof, sNil, sSeq, sAsg, sRet, sRetV, sRetN, sIf, sDrop, sTg, sFor, sBrk, sCnt, sApp, sExt, sOwn, sSetI, opSetI, sLock, unlk, sbnd, bnd, fOp, fCh, fCl, fCall, fLst, fTup, fSl, fIf, fAnd, fOr, fNot, fTru, fAndV, fOrV, fNotV, fNeg, fIsi, fM1, fM2, fRg1, fRg2, fEn, fRev, fSg, fTp, fIt, eIt, eB, eV, eC, frz, shm, aCons, aNil, poN, poS, Rs.d, Rs.sl, vB, List.cons_append, List.nil_append, List.append_nil, List.replicate_zero, List.replicate_succ, List.getElem?_cons_zero, List.getElem?_cons_succ, List.set_cons_zero, List.set_cons_succ, List.length_cons, List.length_nil, opLen, lenD, opList, opAdd, opSub, opMul, opMod, opDiv, opPow, opMin, opMax, opIx, opSl, cmpB, cEq, cNe, cIsN, cNotN, truD, tgN, tgT, setAll, isKd, opFind, opFind3, opStarts, opStarts3, Nat.reduceLT, Nat.reduceAdd, Nat.reduceSub, Nat.reduceLeDiff, Int.reduceLT, Int.reduceLE, Int.reduceNeg, reduceIte, and_self, true_and, and_true, decide_true, decide_false, Int.toNat_natCast]
  rfl
theorem e_met_loop {ps : Pct} (hs : SzP ps) (hB : ∀ p ∈ ps, p.1.length ≤ 3 ∧ p.2.length ≤ 3) (s0 s1 s3 s4 s9 s10 s11 : Sl) (F : List D) : ∀ (r : List Stp) (u : List Nat) (M : List (List Nat)) (s8 : Sl), Vld ps u r → (M ++ (wds ps u r).tail).Nodup → u.length + 3 * r.length ≤ 1000 → M.length + r.length ≤ 1000 →
    ∃ t8, forL (tgN 8) l1_law (stL r) [s0, s1, .ow (pctD ps), s3, s4, .lk F, .sh (.str u), .ow (strD M), s8, s9, s10, s11] = some (.nx [s0, s1, .ow (pctD ps), s3, s4, .lk F, .sh (.str (endW ps u r)), .ow (strD (M ++ (wds ps u r).tail)), t8, s9, s10, s11])
  | [], u, M, s8, _, _, _, _ => ⟨s8, by simp [wds, stL, forL, endW]⟩
  | s :: r, u, M, s8, ⟨h1, h2⟩, hn, hl, hm => by
    rw [List.length_cons] at hl hm
    have hlen := used_len hB h1
    have ha := e_after (w := u) hs (by omega) h1
    obtain ⟨v, hv⟩ : ∃ v, v = usedW ps u s := ⟨_, rfl⟩
    have et : (wds ps u (s :: r)).tail = v :: (wds ps v r).tail := by
      rw [hv, ← wds_cons]
      rfl
    rw [et] at hn ⊢
    have en : M ++ v :: (wds ps v r).tail = (M ++ [v]) ++ (wds ps v r).tail := by simp
    rw [en] at hn ⊢
    have nm : v ∉ M := fun m => by
      rw [List.nodup_append] at hn
      have h3 := hn.1
      rw [List.nodup_append] at h3
      exact h3.2.2 v m v (List.mem_singleton_self v) rfl
    rw [← hv] at ha hlen h2
    obtain ⟨t8, ih⟩ := e_met_loop hs hB s0 s1 s3 s4 s9 s10 s11 F r v (M ++ [v]) (.sh (stD s)) h2 hn (by omega) (by rw [List.length_append, List.length_singleton]; omega)
    refine ⟨t8, ?_⟩
    have hin := in_strs v M
    rw [decide_eq_false nm] at hin
    have ml : (strD M).length < 1000000 := by rw [strD_len]; omega
    have e5 : strD M ++ [.str v] = strD (M ++ [v]) := by unfold strD; rw [List.map_append]; rfl
    have body : l1_law [s0, s1, .ow (pctD ps), s3, s4, .lk F, .sh (.str u), .ow (strD M), .sh (stD s), s9, s10, s11] = some (.nx [s0, s1, .ow (pctD ps), s3, s4, .lk F, .sh (.str v), .ow (strD (M ++ [v])), .sh (stD s), s9, s10, s11]) := by
      unfold l1_law i2_law
      refine seq_nx (by simp (disch := first | omega | assumption) only [if_pos, if_neg, decide_eq_true, decide_eq_false, atI_of, cutL_take, cutL_drop, cutL_mid, ge_iff_le, gt_iff_lt, Int.reduceToNat, Int.toNat_zero, Int.toNat_one, Bool.not_true, Bool.not_false, szl, D.key, fDNew, fDGet, sDPutV, fDSet, fRg3, fChV, fSortL, frL, frS, fSortB, sRem, sqAt, eIxI, fItm, fItV, chS, sItC, sItA, sItI, sItS, fTmp, Sl.mut, Sl.th, O.d, sqD, D.atm, sTryR, fSq, aConsF, aNilF, eO, sTgF, setFd, Fd.sl, opJoinRev, fLRev, runDef, runDefI, ioAt, insA, chL, getO, setO, getL, setL, obAt, eFd, eFV, eFB, fFld, fMeth, fMethI, fMake, fCallI, aHere, fIsO, sFldS, setF, Rs.fd, Fd.d, O.d, fMethD, chF, sAppF, fPopF, fPop0, fPop1, sIns, sRetI, sRetNI, fZip, fML, opAny, opAll, opSorted, opMaxL, opMinL, opRfind, opCount, List.map_cons, List.map_nil, cInA, cNinA, inD, itD, fItA, eItA, cLtA, cLeA, fRr1, fRr2, opInt, sPar, fCallD, fRaise0, fRaise1, sTryAs, sTry, aftr, noX, allEq_const, fXf, fXi, fLc, lcL, unE, tYs, Vs.ret, xLock, inis, bof, sNil, sSeq, sAsg, sRet, sRetV, sRetN, sIf, sDrop, sTg, sFor, sBrk, sCnt, sApp, sExt, sOwn, sSetI, opSetI, sLock, unlk, sbnd, bnd, fOp, fCh, fCl, fCall, fLst, fTup, fSl, fIf, fAnd, fOr, fNot, fTru, fAndV, fOrV, fNotV, fNeg, fIsi, fM1, fM2, fRg1, fRg2, fEn, fRev, fSg, fTp, fIt, eIt, eB, eV, eC, frz, shm, aCons, aNil, poN, poS, Rs.d, Rs.sl, vB, List.cons_append, List.nil_append, List.append_nil, List.replicate_zero, List.replicate_succ, List.getElem?_cons_zero, List.getElem?_cons_succ, List.set_cons_zero, List.set_cons_succ, List.length_cons, List.length_nil, opLen, lenD, opList, opAdd, opSub, opMul, opMod, opDiv, opPow, opMin, opMax, opIx, opSl, cmpB, cEq, cNe, cIsN, cNotN, truD, tgN, tgT, setAll, isKd, opFind, opFind3, opStarts, opStarts3, Nat.reduceLT, Nat.reduceAdd, Nat.reduceSub, Nat.reduceLeDiff, Int.reduceLT, Int.reduceLE, Int.reduceNeg, reduceIte, and_self, true_and, and_true, decide_true, decide_false, Int.toNat_natCast, ha]; exact rfl) ?_
      refine seq_nx (by simp (disch := first | omega | assumption) only [if_pos, if_neg, decide_eq_true, decide_eq_false, atI_of, cutL_take, cutL_drop, cutL_mid, ge_iff_le, gt_iff_lt, Int.reduceToNat, Int.toNat_zero, Int.toNat_one, Bool.not_true, Bool.not_false, szl, D.key, fDNew, fDGet, sDPutV, fDSet, fRg3, fChV, fSortL, frL, frS, fSortB, sRem, sqAt, eIxI, fItm, fItV, chS, sItC, sItA, sItI, sItS, fTmp, Sl.mut, Sl.th, O.d, sqD, D.atm, sTryR, fSq, aConsF, aNilF, eO, sTgF, setFd, Fd.sl, opJoinRev, fLRev, runDef, runDefI, ioAt, insA, chL, getO, setO, getL, setL, obAt, eFd, eFV, eFB, fFld, fMeth, fMethI, fMake, fCallI, aHere, fIsO, sFldS, setF, Rs.fd, Fd.d, O.d, fMethD, chF, sAppF, fPopF, fPop0, fPop1, sIns, sRetI, sRetNI, fZip, fML, opAny, opAll, opSorted, opMaxL, opMinL, opRfind, opCount, List.map_cons, List.map_nil, cInA, cNinA, inD, itD, fItA, eItA, cLtA, cLeA, fRr1, fRr2, opInt, sPar, fCallD, fRaise0, fRaise1, sTryAs, sTry, aftr, noX, allEq_const, fXf, fXi, fLc, lcL, unE, tYs, Vs.ret, xLock, inis, bof, sNil, sSeq, sAsg, sRet, sRetV, sRetN, sIf, sDrop, sTg, sFor, sBrk, sCnt, sApp, sExt, sOwn, sSetI, opSetI, sLock, unlk, sbnd, bnd, fOp, fCh, fCl, fCall, fLst, fTup, fSl, fIf, fAnd, fOr, fNot, fTru, fAndV, fOrV, fNotV, fNeg, fIsi, fM1, fM2, fRg1, fRg2, fEn, fRev, fSg, fTp, fIt, eIt, eB, eV, eC, frz, shm, aCons, aNil, poN, poS, Rs.d, Rs.sl, vB, List.cons_append, List.nil_append, List.append_nil, List.replicate_zero, List.replicate_succ, List.getElem?_cons_zero, List.getElem?_cons_succ, List.set_cons_zero, List.set_cons_succ, List.length_cons, List.length_nil, opLen, lenD, opList, opAdd, opSub, opMul, opMod, opDiv, opPow, opMin, opMax, opIx, opSl, cmpB, cEq, cNe, cIsN, cNotN, truD, tgN, tgT, setAll, isKd, opFind, opFind3, opStarts, opStarts3, Nat.reduceLT, Nat.reduceAdd, Nat.reduceSub, Nat.reduceLeDiff, Int.reduceLT, Int.reduceLE, Int.reduceNeg, reduceIte, and_self, true_and, and_true, decide_true, decide_false, Int.toNat_natCast, hin]; exact rfl) ?_
      simp (disch := first | omega | assumption) only [if_pos, if_neg, decide_eq_true, decide_eq_false, atI_of, cutL_take, cutL_drop, cutL_mid, ge_iff_le, gt_iff_lt, Int.reduceToNat, Int.toNat_zero, Int.toNat_one, Bool.not_true, Bool.not_false, szl, D.key, fDNew, fDGet, sDPutV, fDSet, fRg3, fChV, fSortL, frL, frS, fSortB, sRem, sqAt, eIxI, fItm, fItV, chS, sItC, sItA, sItI, sItS, fTmp, Sl.mut, Sl.th, O.d, sqD, D.atm, sTryR, fSq, aConsF, aNilF, eO, sTgF, setFd, Fd.sl, opJoinRev, fLRev, runDef, runDefI, ioAt, insA, chL, getO, setO, getL, setL, obAt, eFd, eFV, eFB, fFld, fMeth, fMethI, fMake, fCallI, aHere, fIsO, sFldS, setF, Rs.fd, Fd.d, O.d, fMethD, chF, sAppF, fPopF, fPop0, fPop1, sIns, sRetI, sRetNI, fZip, fML, opAny, opAll, opSorted, opMaxL, opMinL, opRfind, opCount, List.map_cons, List.map_nil, cInA, cNinA, inD, itD, fItA, eItA, cLtA, cLeA, fRr1, fRr2, opInt, sPar, fCallD, fRaise0, fRaise1, sTryAs, sTry, aftr, noX, allEq_const, fXf, fXi, fLc, lcL, unE, tYs, Vs.ret, xLock, inis, bof, sNil, sSeq, sAsg, sRet, sRetV, sRetN, sIf, sDrop, sTg, sFor, sBrk, sCnt, sApp, sExt, sOwn, sSetI, opSetI, sLock, unlk, sbnd, bnd, fOp, fCh, fCl, fCall, fLst, fTup, fSl, fIf, fAnd, fOr, fNot, fTru, fAndV, fOrV, fNotV, fNeg, fIsi, fM1, fM2, fRg1, fRg2, fEn, fRev, fSg, fTp, fIt, eIt, eB, eV, eC, frz, shm, aCons, aNil, poN, poS, Rs.d, Rs.sl, vB, List.cons_append, List.nil_append, List.append_nil, List.replicate_zero, List.replicate_succ, List.getElem?_cons_zero, List.getElem?_cons_succ, List.set_cons_zero, List.set_cons_succ, List.length_cons, List.length_nil, opLen, lenD, opList, opAdd, opSub, opMul, opMod, opDiv, opPow, opMin, opMax, opIx, opSl, cmpB, cEq, cNe, cIsN, cNotN, truD, tgN, tgT, setAll, isKd, opFind, opFind3, opStarts, opStarts3, Nat.reduceLT, Nat.reduceAdd, Nat.reduceSub, Nat.reduceLeDiff, Int.reduceLT, Int.reduceLE, Int.reduceNeg, reduceIte, and_self, true_and, and_true, decide_true, decide_false, Int.toNat_natCast, e5]
    rw [show stL (s :: r) = stD s :: stL r from rfl, forL, show tgN 8 (stD s) [s0, s1, .ow (pctD ps), s3, s4, .lk F, .sh (.str u), .ow (strD M), s8, s9, s10, s11] = some [s0, s1, .ow (pctD ps), s3, s4, .lk F, .sh (.str u), .ow (strD M), .sh (stD s), s9, s10, s11] from rfl]
    dsimp only
    rw [body]
    dsimp only
    rw [ih, hv]
    rfl
theorem law_true : LawTrue g_law := fun ns hn hb => by
  have c0 : g_law_cell_at [.scr ns, .int 0] = some (.rt (.sh (.int (cell ns 0)))) := e_cell ns 0
  have c1 : g_law_cell_at [.scr ns, .int 1] = some (.rt (.sh (.int (cell ns 1)))) := e_cell ns 1
  obtain ⟨L, hL, hL1, hL2, hL3⟩ := e_letters (cell ns 0) 2 (by decide) (by decide)
  simp only [Int.cast_ofNat_Int] at hL
  have hch : ∀ n : Nat, ∃ p : List Nat × List Nat, g_law_pact [.int (cell ns (2 + n)), .str L, .int ((2 : Nat) : Int)] = some (.rt (.sh (pD p))) ∧ (p.1.length ≤ 2 ∧ ∀ x ∈ p.1, x ∈ L) ∧ p.2.length ≤ 2 ∧ ∀ x ∈ p.2, x ∈ L := fun n => e_pact L _ 2 (cell_bits hb _) (by omega) (by omega) (by decide)
  obtain ⟨f, hf⟩ := Classical.axiomOfChoice hch
  simp only [Int.cast_ofNat_Int] at hf
  obtain ⟨ps, hps⟩ : ∃ ps : Pct, ps = (List.range 3).map f := ⟨_, rfl⟩
  have hpH : ∀ p ∈ ps, (p.1.length ≤ 2 ∧ ∀ x ∈ p.1, x ∈ L) ∧ p.2.length ≤ 2 ∧ ∀ x ∈ p.2, x ∈ L := fun p hp => by
    rw [hps] at hp
    obtain ⟨n, _, rfl⟩ := List.mem_map.mp hp
    exact (hf n).2
  have hpl : ps.length = 3 := by rw [hps, List.length_map, List.length_range]
  have hB : ∀ p ∈ ps, p.1.length ≤ 3 ∧ p.2.length ≤ 3 := fun p m => by have a := (hpH p m).1.1; have b := (hpH p m).2.1; omega
  have hin : ∀ p ∈ ps, (∀ c ∈ p.1, c ∈ L) ∧ ∀ c ∈ p.2, c ∈ L := fun p m => ⟨(hpH p m).1.2, (hpH p m).2.2⟩
  have hs : SzP ps := ⟨by omega, fun p m => by have := hB p m; omega⟩
  obtain ⟨j, l0⟩ := lcL_fun (f := tgN 11) (te := frz (fCall g_law_pact (aCons (frz (fCall g_law_cell_at (aCons (eB 0) (aCons (frz (fOp opAdd (eC (.int 2)) (eB 11))) (aNil))))) (aCons (eB 1) (aCons (eC (.int 2)) (aNil)))))) (vs := [11]) (fun (_ : Unit) => [.sh (.scr ns), .sh (.str L), .un, .un, .un, .un, .un, .un, .un, .un, .un, .un]) (fun n : Nat => D.int (0 + (n : Int))) (fun n => pD (f n)) (List.range 3) [] () fun n hn _ => by
    have e0 : (2 : Int) + (0 + (n : Int)) = ((2 + n : Nat) : Int) := by omega
    have c := e_cell ns (2 + n)
    refine ⟨_, rfl, [.sh (.scr ns), .sh (.str L), .un, .un, .un, .un, .un, .un, .un, .un, .un, .sh (.int (0 + (n : Int)))], ?_, (), rfl⟩
    simp (disch := first | omega | assumption) only [if_pos, if_neg, decide_eq_true, decide_eq_false, atI_of, cutL_take, cutL_drop, cutL_mid, ge_iff_le, gt_iff_lt, Int.reduceToNat, Int.toNat_zero, Int.toNat_one, Bool.not_true, Bool.not_false, szl, D.key, fDNew, fDGet, sDPutV, fDSet, fRg3, fChV, fSortL, frL, frS, fSortB, sRem, sqAt, eIxI, fItm, fItV, chS, sItC, sItA, sItI, sItS, fTmp, Sl.mut, Sl.th, O.d, sqD, D.atm, sTryR, fSq, aConsF, aNilF, eO, sTgF, setFd, Fd.sl, opJoinRev, fLRev, runDef, runDefI, ioAt, insA, chL, getO, setO, getL, setL, obAt, eFd, eFV, eFB, fFld, fMeth, fMethI, fMake, fCallI, aHere, fIsO, sFldS, setF, Rs.fd, Fd.d, O.d, fMethD, chF, sAppF, fPopF, fPop0, fPop1, sIns, sRetI, sRetNI, fZip, fML, opAny, opAll, opSorted, opMaxL, opMinL, opRfind, opCount, List.map_cons, List.map_nil, cInA, cNinA, inD, itD, fItA, eItA, cLtA, cLeA, fRr1, fRr2, opInt, sPar, fCallD, fRaise0, fRaise1, sTryAs, sTry, aftr, noX, allEq_const, fXf, fXi, fLc, lcL, unE, tYs, Vs.ret, xLock, inis, bof, sNil, sSeq, sAsg, sRet, sRetV, sRetN, sIf, sDrop, sTg, sFor, sBrk, sCnt, sApp, sExt, sOwn, sSetI, opSetI, sLock, unlk, sbnd, bnd, fOp, fCh, fCl, fCall, fLst, fTup, fSl, fIf, fAnd, fOr, fNot, fTru, fAndV, fOrV, fNotV, fNeg, fIsi, fM1, fM2, fRg1, fRg2, fEn, fRev, fSg, fTp, fIt, eIt, eB, eV, eC, frz, shm, aCons, aNil, poN, poS, Rs.d, Rs.sl, vB, List.cons_append, List.nil_append, List.append_nil, List.replicate_zero, List.replicate_succ, List.getElem?_cons_zero, List.getElem?_cons_succ, List.set_cons_zero, List.set_cons_succ, List.length_cons, List.length_nil, opLen, lenD, opList, opAdd, opSub, opMul, opMod, opDiv, opPow, opMin, opMax, opIx, opSl, cmpB, cEq, cNe, cIsN, cNotN, truD, tgN, tgT, setAll, isKd, opFind, opFind3, opStarts, opStarts3, Nat.reduceLT, Nat.reduceAdd, Nat.reduceSub, Nat.reduceLeDiff, Int.reduceLT, Int.reduceLE, Int.reduceNeg, reduceIte, and_self, true_and, and_true, decide_true, decide_false, Int.toNat_natCast, e0, c, (hf n).1]
  have e1 : (List.range 3).map (fun n => pD (f n)) = pctD ps := by rw [hps]; unfold pctD; rw [List.map_map]; rfl
  rw [e1] at l0
  have l0'_ : lcL (tgN 11) tYs (frz (fCall g_law_pact (aCons (frz (fCall g_law_cell_at (aCons (eB 0) (aCons (frz (fOp opAdd (eC (.int 2)) (eB 11))) (aNil))))) (aCons (eB 1) (aCons (eC (.int 2)) (aNil)))))) [11] (rng 0 3) [] [.sh (.scr ns), .sh (.str L), .un, .un, .un, .un, .un, .un, .un, .un, .un, .un] = _ := l0
  simp (disch := first | omega | assumption) only [if_pos, if_neg, decide_eq_true, decide_eq_false, atI_of, cutL_take, cutL_drop, cutL_mid, ge_iff_le, gt_iff_lt, Int.reduceToNat, Int.toNat_zero, Int.toNat_one, Bool.not_true, Bool.not_false, szl, D.key, fDNew, fDGet, sDPutV, fDSet, fRg3, fChV, fSortL, frL, frS, fSortB, sRem, sqAt, eIxI, fItm, fItV, chS, sItC, sItA, sItI, sItS, fTmp, Sl.mut, Sl.th, O.d, sqD, D.atm, sTryR, fSq, aConsF, aNilF, eO, sTgF, setFd, Fd.sl, opJoinRev, fLRev, runDef, runDefI, ioAt, insA, chL, getO, setO, getL, setL, obAt, eFd, eFV, eFB, fFld, fMeth, fMethI, fMake, fCallI, aHere, fIsO, sFldS, setF, Rs.fd, Fd.d, O.d, fMethD, chF, sAppF, fPopF, fPop0, fPop1, sIns, sRetI, sRetNI, fZip, fML, opAny, opAll, opSorted, opMaxL, opMinL, opRfind, opCount, List.map_cons, List.map_nil, cInA, cNinA, inD, itD, fItA, eItA, cLtA, cLeA, fRr1, fRr2, opInt, sPar, fCallD, fRaise0, fRaise1, sTryAs, sTry, aftr, noX, allEq_const, fXf, fXi, fLc, lcL, unE, tYs, Vs.ret, xLock, inis, bof, sNil, sSeq, sAsg, sRet, sRetV, sRetN, sIf, sDrop, sTg, sFor, sBrk, sCnt, sApp, sExt, sOwn, sSetI, opSetI, sLock, unlk, sbnd, bnd, fOp, fCh, fCl, fCall, fLst, fTup, fSl, fIf, fAnd, fOr, fNot, fTru, fAndV, fOrV, fNotV, fNeg, fIsi, fM1, fM2, fRg1, fRg2, fEn, fRev, fSg, fTp, fIt, eIt, eB, eV, eC, frz, shm, aCons, aNil, poN, poS, Rs.d, Rs.sl, vB, List.cons_append, List.nil_append, List.append_nil, List.replicate_zero, List.replicate_succ, List.getElem?_cons_zero, List.getElem?_cons_succ, List.set_cons_zero, List.set_cons_succ, List.length_cons, List.length_nil, opLen, lenD, opList, opAdd, opSub, opMul, opMod, opDiv, opPow, opMin, opMax, opIx, opSl, cmpB, cEq, cNe, cIsN, cNotN, truD, tgN, tgT, setAll, isKd, opFind, opFind3, opStarts, opStarts3, Nat.reduceLT, Nat.reduceAdd, Nat.reduceSub, Nat.reduceLeDiff, Int.reduceLT, Int.reduceLE, Int.reduceNeg, reduceIte, and_self, true_and, and_true, decide_true, decide_false, Int.toNat_natCast] at l0'_
  obtain ⟨w, w1, w2, w3⟩ := e_lword L (cell ns 1) 3 (by omega) (by omega) (by decide)
  simp only [Int.cast_ofNat_Int] at w1
  obtain ⟨cs, hcs⟩ : ∃ cs, cs = List.take 58 (List.drop 5 ns) := ⟨_, rfl⟩
  have hcl : cs.length ≤ 58 := by rw [hcs, List.length_take]; omega
  obtain ⟨ss, g1, g2, g3⟩ := e_lchain (most := 4) (w := w) cs hs (by omega) (by omega) (by decide) (by omega)
  simp only [Int.cast_ofNat_Int] at g1
  have hW : ∀ v ∈ wds ps w ss, ∀ c ∈ v, c ≤ 122 := fun v hv c hc => hL3 c (wds_in hin ss w g3 w3 v hv c hc)
  have okW := okE_strs hW
  have ch : ChOk ps w ss := ⟨hs, hB, g3, by omega⟩
  have ci := e_Chain_init ch
  obtain ⟨la, hla⟩ := las_ex (wds ps w ss)
  have hw0 : (wds ps w ss)[0]? = some w := by rw [wds_cons]; rfl
  have wl := wds_len ps ss w
  obtain ⟨k1, k2⟩ := due_ok g3 hla (ss.length + 1) 0 w hw0 (by omega)
  have st := e_Chain_straight ch hla
  have du := e_ldue hla (by omega : ss.length ≤ 900)
  obtain ⟨r, hr⟩ : ∃ r, r = dueS la ss (ss.length + 1) 0 := ⟨_, rfl⟩
  rw [← hr] at st du k1 k2
  rw [Nat.sub_zero] at k2
  have ch2 : ChOk ps w r := ⟨hs, hB, k1.v, by omega⟩
  obtain ⟨lb, hlb⟩ := las_ex (wds ps w r)
  have st2 := e_Chain_straight ch2 hlb
  have wl2 := wds_len ps r w
  rw [due_same (las_nodup k1.nd hlb) wl2 (r.length + 1) 0 (by omega) (by omega), List.drop_zero] at st2
  obtain ⟨t8, lp⟩ := e_met_loop hs hB (.sh (.scr ns)) (.sh (.str L)) (.sh (chob ps w ss)) (.sh (chob ps w r)) (.sh (.lst (stL ss))) (.sh (.lst (strD (wds ps w ss)))) .un (stL r) r w [w] .un k1.v (by
    have := k1.nd
    rw [wds_cons] at this
    exact this) (by omega) (by rw [List.length_singleton]; omega)
  have eM : [w] ++ (wds ps w r).tail = wds ps w r := by
    conv => rhs; rw [wds_cons]
    rfl
  rw [eM, k1.e] at lp
  have hW2 : ∀ v ∈ wds ps w r, ∀ c ∈ v, c ≤ 122 := fun v hv c hc => hL3 c (wds_in hin r w k1.v w3 v hv c hc)
  have okR := okE_strs hW2
  have evW := eqv_self (.lst (strD (wds ps w ss)))
  have evR := eqv_self (.lst (strD (wds ps w r)))
  have won := e_words_on (ps := ps) (w := w) (ss := ss)
  have sto := e_steps_told (ps := ps) (w := w) (ss := ss)
  have won2 := e_words_on (ps := ps) (w := w) (ss := r)
  have sto2 := e_steps_told (ps := ps) (w := w) (ss := r)
  have fi2 := e_first (ps := ps) (w := w) (ss := r)
  have la2 := e_last (ps := ps) (w := w) (ss := r)
  rw [k1.e] at la2
  have sa := e_steps_are ss (by omega)
  have sa2 := e_steps_are r (by omega)
  have hwl : (strD (wds ps w ss)).length ≤ 1000 := by rw [strD_len, wds_len]; omega
  have hwl2 : (strD (wds ps w r)).length ≤ 1000 := by rw [strD_len, wds_len]; omega
  have pl : (pctD ps).length ≤ 1000 := by rw [pct_len]; omega
  have sl : (stL ss).length ≤ 1000 := by rw [stL_len]; omega
  have sl2 : (stL r).length ≤ 1000 := by rw [stL_len]; omega
  have fs := str_first ps w ss
  have fs2 := str_first ps w r
  have sla := str_last ps w ss
  have sla2 := str_last ps w r
  rw [k1.e] at sla2
  obtain ⟨z, hz⟩ : ∃ z, z = endW ps w ss := ⟨_, rfl⟩
  rw [← hz] at sla sla2 la2 lp
  have cc : cutL ns (some 5) (some 63) = cs := by
    rw [cutL_mid ns (by decide) (by decide), hcs]
    rfl
  have chx : D.ob 0 [.lst (pctD ps), .lst (stL ss), .lst (strD (wds ps w ss))] = chob ps w ss := rfl
  obtain ⟨O1, hO1⟩ : ∃ d, d = chob ps w ss := ⟨_, rfl⟩
  obtain ⟨O2, hO2⟩ : ∃ d, d = chob ps w r := ⟨_, rfl⟩
  obtain ⟨a1, ha1⟩ : ∃ l, O1 = .ob 0 l := ⟨_, hO1⟩
  obtain ⟨a2, ha2⟩ : ∃ l, O2 = .ob 0 l := ⟨_, hO2⟩
  rw [← hO1] at st won sto chx lp
  rw [← hO2] at st st2 won2 sto2 fi2 la2 lp
  rw [ha1] at st won sto chx lp
  rw [ha2] at st st2 won2 sto2 fi2 la2 lp
  unfold g_law b_law
  refine run_fin ?_
  refine fin_seq (by simp (disch := first | omega | assumption) only [if_pos, if_neg, decide_eq_true, decide_eq_false, atI_of, cutL_take, cutL_drop, cutL_mid, ge_iff_le, gt_iff_lt, Int.reduceToNat, Int.toNat_zero, Int.toNat_one, Bool.not_true, Bool.not_false, szl, D.key, fDNew, fDGet, sDPutV, fDSet, fRg3, fChV, fSortL, frL, frS, fSortB, sRem, sqAt, eIxI, fItm, fItV, chS, sItC, sItA, sItI, sItS, fTmp, Sl.mut, Sl.th, O.d, sqD, D.atm, sTryR, fSq, aConsF, aNilF, eO, sTgF, setFd, Fd.sl, opJoinRev, fLRev, runDef, runDefI, ioAt, insA, chL, getO, setO, getL, setL, obAt, eFd, eFV, eFB, fFld, fMeth, fMethI, fMake, fCallI, aHere, fIsO, sFldS, setF, Rs.fd, Fd.d, O.d, fMethD, chF, sAppF, fPopF, fPop0, fPop1, sIns, sRetI, sRetNI, fZip, fML, opAny, opAll, opSorted, opMaxL, opMinL, opRfind, opCount, List.map_cons, List.map_nil, cInA, cNinA, inD, itD, fItA, eItA, cLtA, cLeA, fRr1, fRr2, opInt, sPar, fCallD, fRaise0, fRaise1, sTryAs, sTry, aftr, noX, allEq_const, fXf, fXi, fLc, lcL, unE, tYs, Vs.ret, xLock, inis, bof, sNil, sSeq, sAsg, sRet, sRetV, sRetN, sIf, sDrop, sTg, sFor, sBrk, sCnt, sApp, sExt, sOwn, sSetI, opSetI, sLock, unlk, sbnd, bnd, fOp, fCh, fCl, fCall, fLst, fTup, fSl, fIf, fAnd, fOr, fNot, fTru, fAndV, fOrV, fNotV, fNeg, fIsi, fM1, fM2, fRg1, fRg2, fEn, fRev, fSg, fTp, fIt, eIt, eB, eV, eC, frz, shm, aCons, aNil, poN, poS, Rs.d, Rs.sl, vB, List.cons_append, List.nil_append, List.append_nil, List.replicate_zero, List.replicate_succ, List.getElem?_cons_zero, List.getElem?_cons_succ, List.set_cons_zero, List.set_cons_succ, List.length_cons, List.length_nil, opLen, lenD, opList, opAdd, opSub, opMul, opMod, opDiv, opPow, opMin, opMax, opIx, opSl, cmpB, cEq, cNe, cIsN, cNotN, truD, tgN, tgT, setAll, isKd, opFind, opFind3, opStarts, opStarts3, Nat.reduceLT, Nat.reduceAdd, Nat.reduceSub, Nat.reduceLeDiff, Int.reduceLT, Int.reduceLE, Int.reduceNeg, reduceIte, and_self, true_and, and_true, decide_true, decide_false, Int.toNat_natCast, c0, hL]; exact rfl) ?_
  refine fin_seq (by simp (disch := first | omega | assumption) only [if_pos, if_neg, decide_eq_true, decide_eq_false, atI_of, cutL_take, cutL_drop, cutL_mid, ge_iff_le, gt_iff_lt, Int.reduceToNat, Int.toNat_zero, Int.toNat_one, Bool.not_true, Bool.not_false, szl, D.key, fDNew, fDGet, sDPutV, fDSet, fRg3, fChV, fSortL, frL, frS, fSortB, sRem, sqAt, eIxI, fItm, fItV, chS, sItC, sItA, sItI, sItS, fTmp, Sl.mut, Sl.th, O.d, sqD, D.atm, sTryR, fSq, aConsF, aNilF, eO, sTgF, setFd, Fd.sl, opJoinRev, fLRev, runDef, runDefI, ioAt, insA, chL, getO, setO, getL, setL, obAt, eFd, eFV, eFB, fFld, fMeth, fMethI, fMake, fCallI, aHere, fIsO, sFldS, setF, Rs.fd, Fd.d, O.d, fMethD, chF, sAppF, fPopF, fPop0, fPop1, sIns, sRetI, sRetNI, fZip, fML, opAny, opAll, opSorted, opMaxL, opMinL, opRfind, opCount, List.map_cons, List.map_nil, cInA, cNinA, inD, itD, fItA, eItA, cLtA, cLeA, fRr1, fRr2, opInt, sPar, fCallD, fRaise0, fRaise1, sTryAs, sTry, aftr, noX, allEq_const, fXf, fXi, fLc, lcL, unE, tYs, Vs.ret, xLock, inis, bof, sNil, sSeq, sAsg, sRet, sRetV, sRetN, sIf, sDrop, sTg, sFor, sBrk, sCnt, sApp, sExt, sOwn, sSetI, opSetI, sLock, unlk, sbnd, bnd, fOp, fCh, fCl, fCall, fLst, fTup, fSl, fIf, fAnd, fOr, fNot, fTru, fAndV, fOrV, fNotV, fNeg, fIsi, fM1, fM2, fRg1, fRg2, fEn, fRev, fSg, fTp, fIt, eIt, eB, eV, eC, frz, shm, aCons, aNil, poN, poS, Rs.d, Rs.sl, vB, List.cons_append, List.nil_append, List.append_nil, List.replicate_zero, List.replicate_succ, List.getElem?_cons_zero, List.getElem?_cons_succ, List.set_cons_zero, List.set_cons_succ, List.length_cons, List.length_nil, opLen, lenD, opList, opAdd, opSub, opMul, opMod, opDiv, opPow, opMin, opMax, opIx, opSl, cmpB, cEq, cNe, cIsN, cNotN, truD, tgN, tgT, setAll, isKd, opFind, opFind3, opStarts, opStarts3, Nat.reduceLT, Nat.reduceAdd, Nat.reduceSub, Nat.reduceLeDiff, Int.reduceLT, Int.reduceLE, Int.reduceNeg, reduceIte, and_self, true_and, and_true, decide_true, decide_false, Int.toNat_natCast, l0'_]; exact rfl) ?_
  refine fin_seq (by simp (disch := first | omega | assumption) only [if_pos, if_neg, decide_eq_true, decide_eq_false, atI_of, cutL_take, cutL_drop, cutL_mid, ge_iff_le, gt_iff_lt, Int.reduceToNat, Int.toNat_zero, Int.toNat_one, Bool.not_true, Bool.not_false, szl, D.key, fDNew, fDGet, sDPutV, fDSet, fRg3, fChV, fSortL, frL, frS, fSortB, sRem, sqAt, eIxI, fItm, fItV, chS, sItC, sItA, sItI, sItS, fTmp, Sl.mut, Sl.th, O.d, sqD, D.atm, sTryR, fSq, aConsF, aNilF, eO, sTgF, setFd, Fd.sl, opJoinRev, fLRev, runDef, runDefI, ioAt, insA, chL, getO, setO, getL, setL, obAt, eFd, eFV, eFB, fFld, fMeth, fMethI, fMake, fCallI, aHere, fIsO, sFldS, setF, Rs.fd, Fd.d, O.d, fMethD, chF, sAppF, fPopF, fPop0, fPop1, sIns, sRetI, sRetNI, fZip, fML, opAny, opAll, opSorted, opMaxL, opMinL, opRfind, opCount, List.map_cons, List.map_nil, cInA, cNinA, inD, itD, fItA, eItA, cLtA, cLeA, fRr1, fRr2, opInt, sPar, fCallD, fRaise0, fRaise1, sTryAs, sTry, aftr, noX, allEq_const, fXf, fXi, fLc, lcL, unE, tYs, Vs.ret, xLock, inis, bof, sNil, sSeq, sAsg, sRet, sRetV, sRetN, sIf, sDrop, sTg, sFor, sBrk, sCnt, sApp, sExt, sOwn, sSetI, opSetI, sLock, unlk, sbnd, bnd, fOp, fCh, fCl, fCall, fLst, fTup, fSl, fIf, fAnd, fOr, fNot, fTru, fAndV, fOrV, fNotV, fNeg, fIsi, fM1, fM2, fRg1, fRg2, fEn, fRev, fSg, fTp, fIt, eIt, eB, eV, eC, frz, shm, aCons, aNil, poN, poS, Rs.d, Rs.sl, vB, List.cons_append, List.nil_append, List.append_nil, List.replicate_zero, List.replicate_succ, List.getElem?_cons_zero, List.getElem?_cons_succ, List.set_cons_zero, List.set_cons_succ, List.length_cons, List.length_nil, opLen, lenD, opList, opAdd, opSub, opMul, opMod, opDiv, opPow, opMin, opMax, opIx, opSl, cmpB, cEq, cNe, cIsN, cNotN, truD, tgN, tgT, setAll, isKd, opFind, opFind3, opStarts, opStarts3, Nat.reduceLT, Nat.reduceAdd, Nat.reduceSub, Nat.reduceLeDiff, Int.reduceLT, Int.reduceLE, Int.reduceNeg, reduceIte, and_self, true_and, and_true, decide_true, decide_false, Int.toNat_natCast, c1, w1, cc, g1]; exact rfl) ?_
  refine fin_seq (e1 := [.sh (.scr ns), .sh (.str L), .ow (pctD ps), .sh (.ob 0 a1), .un, .un, .un, .un, .un, .sh (.lst (stL ss)), .sh (.lst (strD (wds ps w ss))), .un]) (by
    simp (disch := first | omega | assumption) only [if_pos, if_neg, decide_eq_true, decide_eq_false, atI_of, cutL_take, cutL_drop, cutL_mid, ge_iff_le, gt_iff_lt, Int.reduceToNat, Int.toNat_zero, Int.toNat_one, Bool.not_true, Bool.not_false, szl, D.key, fDNew, fDGet, sDPutV, fDSet, fRg3, fChV, fSortL, frL, frS, fSortB, sRem, sqAt, eIxI, fItm, fItV, chS, sItC, sItA, sItI, sItS, fTmp, Sl.mut, Sl.th, O.d, sqD, D.atm, sTryR, fSq, aConsF, aNilF, eO, sTgF, setFd, Fd.sl, opJoinRev, fLRev, runDef, runDefI, ioAt, insA, chL, getO, setO, getL, setL, obAt, eFd, eFV, eFB, fFld, fMeth, fMethI, fMake, fCallI, aHere, fIsO, sFldS, setF, Rs.fd, Fd.d, O.d, fMethD, chF, sAppF, fPopF, fPop0, fPop1, sIns, sRetI, sRetNI, fZip, fML, opAny, opAll, opSorted, opMaxL, opMinL, opRfind, opCount, List.map_cons, List.map_nil, cInA, cNinA, inD, itD, fItA, eItA, cLtA, cLeA, fRr1, fRr2, opInt, sPar, fCallD, fRaise0, fRaise1, sTryAs, sTry, aftr, noX, allEq_const, fXf, fXi, fLc, lcL, unE, tYs, Vs.ret, xLock, inis, bof, sNil, sSeq, sAsg, sRet, sRetV, sRetN, sIf, sDrop, sTg, sFor, sBrk, sCnt, sApp, sExt, sOwn, sSetI, opSetI, sLock, unlk, sbnd, bnd, fOp, fCh, fCl, fCall, fLst, fTup, fSl, fIf, fAnd, fOr, fNot, fTru, fAndV, fOrV, fNotV, fNeg, fIsi, fM1, fM2, fRg1, fRg2, fEn, fRev, fSg, fTp, fIt, eIt, eB, eV, eC, frz, shm, aCons, aNil, poN, poS, Rs.d, Rs.sl, vB, List.cons_append, List.nil_append, List.append_nil, List.replicate_zero, List.replicate_succ, List.getElem?_cons_zero, List.getElem?_cons_succ, List.set_cons_zero, List.set_cons_succ, List.length_cons, List.length_nil, opLen, lenD, opList, opAdd, opSub, opMul, opMod, opDiv, opPow, opMin, opMax, opIx, opSl, cmpB, cEq, cNe, cIsN, cNotN, truD, tgN, tgT, setAll, isKd, opFind, opFind3, opStarts, opStarts3, Nat.reduceLT, Nat.reduceAdd, Nat.reduceSub, Nat.reduceLeDiff, Int.reduceLT, Int.reduceLE, Int.reduceNeg, reduceIte, and_self, true_and, and_true, decide_true, decide_false, Int.toNat_natCast, fs, ci, chx]) ?_
  refine fin_seq (by simp (disch := first | omega | assumption) only [if_pos, if_neg, decide_eq_true, decide_eq_false, atI_of, cutL_take, cutL_drop, cutL_mid, ge_iff_le, gt_iff_lt, Int.reduceToNat, Int.toNat_zero, Int.toNat_one, Bool.not_true, Bool.not_false, szl, D.key, fDNew, fDGet, sDPutV, fDSet, fRg3, fChV, fSortL, frL, frS, fSortB, sRem, sqAt, eIxI, fItm, fItV, chS, sItC, sItA, sItI, sItS, fTmp, Sl.mut, Sl.th, O.d, sqD, D.atm, sTryR, fSq, aConsF, aNilF, eO, sTgF, setFd, Fd.sl, opJoinRev, fLRev, runDef, runDefI, ioAt, insA, chL, getO, setO, getL, setL, obAt, eFd, eFV, eFB, fFld, fMeth, fMethI, fMake, fCallI, aHere, fIsO, sFldS, setF, Rs.fd, Fd.d, O.d, fMethD, chF, sAppF, fPopF, fPop0, fPop1, sIns, sRetI, sRetNI, fZip, fML, opAny, opAll, opSorted, opMaxL, opMinL, opRfind, opCount, List.map_cons, List.map_nil, cInA, cNinA, inD, itD, fItA, eItA, cLtA, cLeA, fRr1, fRr2, opInt, sPar, fCallD, fRaise0, fRaise1, sTryAs, sTry, aftr, noX, allEq_const, fXf, fXi, fLc, lcL, unE, tYs, Vs.ret, xLock, inis, bof, sNil, sSeq, sAsg, sRet, sRetV, sRetN, sIf, sDrop, sTg, sFor, sBrk, sCnt, sApp, sExt, sOwn, sSetI, opSetI, sLock, unlk, sbnd, bnd, fOp, fCh, fCl, fCall, fLst, fTup, fSl, fIf, fAnd, fOr, fNot, fTru, fAndV, fOrV, fNotV, fNeg, fIsi, fM1, fM2, fRg1, fRg2, fEn, fRev, fSg, fTp, fIt, eIt, eB, eV, eC, frz, shm, aCons, aNil, poN, poS, Rs.d, Rs.sl, vB, List.cons_append, List.nil_append, List.append_nil, List.replicate_zero, List.replicate_succ, List.getElem?_cons_zero, List.getElem?_cons_succ, List.set_cons_zero, List.set_cons_succ, List.length_cons, List.length_nil, opLen, lenD, opList, opAdd, opSub, opMul, opMod, opDiv, opPow, opMin, opMax, opIx, opSl, cmpB, cEq, cNe, cIsN, cNotN, truD, tgN, tgT, setAll, isKd, opFind, opFind3, opStarts, opStarts3, Nat.reduceLT, Nat.reduceAdd, Nat.reduceSub, Nat.reduceLeDiff, Int.reduceLT, Int.reduceLE, Int.reduceNeg, reduceIte, and_self, true_and, and_true, decide_true, decide_false, Int.toNat_natCast, gs_straight, st]; exact rfl) ?_
  refine fin_seq (by simp (disch := first | omega | assumption) only [if_pos, if_neg, decide_eq_true, decide_eq_false, atI_of, cutL_take, cutL_drop, cutL_mid, ge_iff_le, gt_iff_lt, Int.reduceToNat, Int.toNat_zero, Int.toNat_one, Bool.not_true, Bool.not_false, szl, D.key, fDNew, fDGet, sDPutV, fDSet, fRg3, fChV, fSortL, frL, frS, fSortB, sRem, sqAt, eIxI, fItm, fItV, chS, sItC, sItA, sItI, sItS, fTmp, Sl.mut, Sl.th, O.d, sqD, D.atm, sTryR, fSq, aConsF, aNilF, eO, sTgF, setFd, Fd.sl, opJoinRev, fLRev, runDef, runDefI, ioAt, insA, chL, getO, setO, getL, setL, obAt, eFd, eFV, eFB, fFld, fMeth, fMethI, fMake, fCallI, aHere, fIsO, sFldS, setF, Rs.fd, Fd.d, O.d, fMethD, chF, sAppF, fPopF, fPop0, fPop1, sIns, sRetI, sRetNI, fZip, fML, opAny, opAll, opSorted, opMaxL, opMinL, opRfind, opCount, List.map_cons, List.map_nil, cInA, cNinA, inD, itD, fItA, eItA, cLtA, cLeA, fRr1, fRr2, opInt, sPar, fCallD, fRaise0, fRaise1, sTryAs, sTry, aftr, noX, allEq_const, fXf, fXi, fLc, lcL, unE, tYs, Vs.ret, xLock, inis, bof, sNil, sSeq, sAsg, sRet, sRetV, sRetN, sIf, sDrop, sTg, sFor, sBrk, sCnt, sApp, sExt, sOwn, sSetI, opSetI, sLock, unlk, sbnd, bnd, fOp, fCh, fCl, fCall, fLst, fTup, fSl, fIf, fAnd, fOr, fNot, fTru, fAndV, fOrV, fNotV, fNeg, fIsi, fM1, fM2, fRg1, fRg2, fEn, fRev, fSg, fTp, fIt, eIt, eB, eV, eC, frz, shm, aCons, aNil, poN, poS, Rs.d, Rs.sl, vB, List.cons_append, List.nil_append, List.append_nil, List.replicate_zero, List.replicate_succ, List.getElem?_cons_zero, List.getElem?_cons_succ, List.set_cons_zero, List.set_cons_succ, List.length_cons, List.length_nil, opLen, lenD, opList, opAdd, opSub, opMul, opMod, opDiv, opPow, opMin, opMax, opIx, opSl, cmpB, cEq, cNe, cIsN, cNotN, truD, tgN, tgT, setAll, isKd, opFind, opFind3, opStarts, opStarts3, Nat.reduceLT, Nat.reduceAdd, Nat.reduceSub, Nat.reduceLeDiff, Int.reduceLT, Int.reduceLE, Int.reduceNeg, reduceIte, and_self, true_and, and_true, decide_true, decide_false, Int.toNat_natCast, gs_steps_told, sto2]; exact rfl) ?_
  refine fin_seq (e1 := [.sh (.scr ns), .sh (.str L), .ow (pctD ps), .sh (.ob 0 a1), .sh (.ob 0 a2), .ow (stL r), .un, .un, .un, .sh (.lst (stL ss)), .sh (.lst (strD (wds ps w ss))), .un]) (by
    unfold i1_law
    simp (disch := first | omega | assumption) only [if_pos, if_neg, decide_eq_true, decide_eq_false, atI_of, cutL_take, cutL_drop, cutL_mid, ge_iff_le, gt_iff_lt, Int.reduceToNat, Int.toNat_zero, Int.toNat_one, Bool.not_true, Bool.not_false, szl, D.key, fDNew, fDGet, sDPutV, fDSet, fRg3, fChV, fSortL, frL, frS, fSortB, sRem, sqAt, eIxI, fItm, fItV, chS, sItC, sItA, sItI, sItS, fTmp, Sl.mut, Sl.th, O.d, sqD, D.atm, sTryR, fSq, aConsF, aNilF, eO, sTgF, setFd, Fd.sl, opJoinRev, fLRev, runDef, runDefI, ioAt, insA, chL, getO, setO, getL, setL, obAt, eFd, eFV, eFB, fFld, fMeth, fMethI, fMake, fCallI, aHere, fIsO, sFldS, setF, Rs.fd, Fd.d, O.d, fMethD, chF, sAppF, fPopF, fPop0, fPop1, sIns, sRetI, sRetNI, fZip, fML, opAny, opAll, opSorted, opMaxL, opMinL, opRfind, opCount, List.map_cons, List.map_nil, cInA, cNinA, inD, itD, fItA, eItA, cLtA, cLeA, fRr1, fRr2, opInt, sPar, fCallD, fRaise0, fRaise1, sTryAs, sTry, aftr, noX, allEq_const, fXf, fXi, fLc, lcL, unE, tYs, Vs.ret, xLock, inis, bof, sNil, sSeq, sAsg, sRet, sRetV, sRetN, sIf, sDrop, sTg, sFor, sBrk, sCnt, sApp, sExt, sOwn, sSetI, opSetI, sLock, unlk, sbnd, bnd, fOp, fCh, fCl, fCall, fLst, fTup, fSl, fIf, fAnd, fOr, fNot, fTru, fAndV, fOrV, fNotV, fNeg, fIsi, fM1, fM2, fRg1, fRg2, fEn, fRev, fSg, fTp, fIt, eIt, eB, eV, eC, frz, shm, aCons, aNil, poN, poS, Rs.d, Rs.sl, vB, List.cons_append, List.nil_append, List.append_nil, List.replicate_zero, List.replicate_succ, List.getElem?_cons_zero, List.getElem?_cons_succ, List.set_cons_zero, List.set_cons_succ, List.length_cons, List.length_nil, opLen, lenD, opList, opAdd, opSub, opMul, opMod, opDiv, opPow, opMin, opMax, opIx, opSl, cmpB, cEq, cNe, cIsN, cNotN, truD, tgN, tgT, setAll, isKd, opFind, opFind3, opStarts, opStarts3, Nat.reduceLT, Nat.reduceAdd, Nat.reduceSub, Nat.reduceLeDiff, Int.reduceLT, Int.reduceLE, Int.reduceNeg, reduceIte, and_self, true_and, and_true, decide_true, decide_false, Int.toNat_natCast, du, sa2, Bool.not_true]) ?_
  refine fin_seq (by simp (disch := first | omega | assumption) only [if_pos, if_neg, decide_eq_true, decide_eq_false, atI_of, cutL_take, cutL_drop, cutL_mid, ge_iff_le, gt_iff_lt, Int.reduceToNat, Int.toNat_zero, Int.toNat_one, Bool.not_true, Bool.not_false, szl, D.key, fDNew, fDGet, sDPutV, fDSet, fRg3, fChV, fSortL, frL, frS, fSortB, sRem, sqAt, eIxI, fItm, fItV, chS, sItC, sItA, sItI, sItS, fTmp, Sl.mut, Sl.th, O.d, sqD, D.atm, sTryR, fSq, aConsF, aNilF, eO, sTgF, setFd, Fd.sl, opJoinRev, fLRev, runDef, runDefI, ioAt, insA, chL, getO, setO, getL, setL, obAt, eFd, eFV, eFB, fFld, fMeth, fMethI, fMake, fCallI, aHere, fIsO, sFldS, setF, Rs.fd, Fd.d, O.d, fMethD, chF, sAppF, fPopF, fPop0, fPop1, sIns, sRetI, sRetNI, fZip, fML, opAny, opAll, opSorted, opMaxL, opMinL, opRfind, opCount, List.map_cons, List.map_nil, cInA, cNinA, inD, itD, fItA, eItA, cLtA, cLeA, fRr1, fRr2, opInt, sPar, fCallD, fRaise0, fRaise1, sTryAs, sTry, aftr, noX, allEq_const, fXf, fXi, fLc, lcL, unE, tYs, Vs.ret, xLock, inis, bof, sNil, sSeq, sAsg, sRet, sRetV, sRetN, sIf, sDrop, sTg, sFor, sBrk, sCnt, sApp, sExt, sOwn, sSetI, opSetI, sLock, unlk, sbnd, bnd, fOp, fCh, fCl, fCall, fLst, fTup, fSl, fIf, fAnd, fOr, fNot, fTru, fAndV, fOrV, fNotV, fNeg, fIsi, fM1, fM2, fRg1, fRg2, fEn, fRev, fSg, fTp, fIt, eIt, eB, eV, eC, frz, shm, aCons, aNil, poN, poS, Rs.d, Rs.sl, vB, List.cons_append, List.nil_append, List.append_nil, List.replicate_zero, List.replicate_succ, List.getElem?_cons_zero, List.getElem?_cons_succ, List.set_cons_zero, List.set_cons_succ, List.length_cons, List.length_nil, opLen, lenD, opList, opAdd, opSub, opMul, opMod, opDiv, opPow, opMin, opMax, opIx, opSl, cmpB, cEq, cNe, cIsN, cNotN, truD, tgN, tgT, setAll, isKd, opFind, opFind3, opStarts, opStarts3, Nat.reduceLT, Nat.reduceAdd, Nat.reduceSub, Nat.reduceLeDiff, Int.reduceLT, Int.reduceLE, Int.reduceNeg, reduceIte, and_self, true_and, and_true, decide_true, decide_false, Int.toNat_natCast, fs]; exact rfl) ?_
  refine fin_seq (by simp (disch := first | omega | assumption) only [if_pos, if_neg, decide_eq_true, decide_eq_false, atI_of, cutL_take, cutL_drop, cutL_mid, ge_iff_le, gt_iff_lt, Int.reduceToNat, Int.toNat_zero, Int.toNat_one, Bool.not_true, Bool.not_false, szl, D.key, fDNew, fDGet, sDPutV, fDSet, fRg3, fChV, fSortL, frL, frS, fSortB, sRem, sqAt, eIxI, fItm, fItV, chS, sItC, sItA, sItI, sItS, fTmp, Sl.mut, Sl.th, O.d, sqD, D.atm, sTryR, fSq, aConsF, aNilF, eO, sTgF, setFd, Fd.sl, opJoinRev, fLRev, runDef, runDefI, ioAt, insA, chL, getO, setO, getL, setL, obAt, eFd, eFV, eFB, fFld, fMeth, fMethI, fMake, fCallI, aHere, fIsO, sFldS, setF, Rs.fd, Fd.d, O.d, fMethD, chF, sAppF, fPopF, fPop0, fPop1, sIns, sRetI, sRetNI, fZip, fML, opAny, opAll, opSorted, opMaxL, opMinL, opRfind, opCount, List.map_cons, List.map_nil, cInA, cNinA, inD, itD, fItA, eItA, cLtA, cLeA, fRr1, fRr2, opInt, sPar, fCallD, fRaise0, fRaise1, sTryAs, sTry, aftr, noX, allEq_const, fXf, fXi, fLc, lcL, unE, tYs, Vs.ret, xLock, inis, bof, sNil, sSeq, sAsg, sRet, sRetV, sRetN, sIf, sDrop, sTg, sFor, sBrk, sCnt, sApp, sExt, sOwn, sSetI, opSetI, sLock, unlk, sbnd, bnd, fOp, fCh, fCl, fCall, fLst, fTup, fSl, fIf, fAnd, fOr, fNot, fTru, fAndV, fOrV, fNotV, fNeg, fIsi, fM1, fM2, fRg1, fRg2, fEn, fRev, fSg, fTp, fIt, eIt, eB, eV, eC, frz, shm, aCons, aNil, poN, poS, Rs.d, Rs.sl, vB, List.cons_append, List.nil_append, List.append_nil, List.replicate_zero, List.replicate_succ, List.getElem?_cons_zero, List.getElem?_cons_succ, List.set_cons_zero, List.set_cons_succ, List.length_cons, List.length_nil, opLen, lenD, opList, opAdd, opSub, opMul, opMod, opDiv, opPow, opMin, opMax, opIx, opSl, cmpB, cEq, cNe, cIsN, cNotN, truD, tgN, tgT, setAll, isKd, opFind, opFind3, opStarts, opStarts3, Nat.reduceLT, Nat.reduceAdd, Nat.reduceSub, Nat.reduceLeDiff, Int.reduceLT, Int.reduceLE, Int.reduceNeg, reduceIte, and_self, true_and, and_true, decide_true, decide_false, Int.toNat_natCast, ]; exact rfl) ?_
  have lp' : forL (tgN 8) l1_law (stL r) [.sh (.scr ns), .sh (.str L), .ow (pctD ps), .sh (.ob 0 a1), .sh (.ob 0 a2), .lk (stL r), .sh (.str w), .ow [.str w], .un, .sh (.lst (stL ss)), .sh (.lst (strD (wds ps w ss))), .un] = _ := lp
  refine fin_seq (e1 := [.sh (.scr ns), .sh (.str L), .ow (pctD ps), .sh (.ob 0 a1), .sh (.ob 0 a2), .ow (stL r), .sh (.str z), .ow (strD (wds ps w r)), t8, .sh (.lst (stL ss)), .sh (.lst (strD (wds ps w ss))), .un]) (by
    simp (disch := first | omega | assumption) only [if_pos, if_neg, decide_eq_true, decide_eq_false, atI_of, cutL_take, cutL_drop, cutL_mid, ge_iff_le, gt_iff_lt, Int.reduceToNat, Int.toNat_zero, Int.toNat_one, Bool.not_true, Bool.not_false, szl, D.key, fDNew, fDGet, sDPutV, fDSet, fRg3, fChV, fSortL, frL, frS, fSortB, sRem, sqAt, eIxI, fItm, fItV, chS, sItC, sItA, sItI, sItS, fTmp, Sl.mut, Sl.th, O.d, sqD, D.atm, sTryR, fSq, aConsF, aNilF, eO, sTgF, setFd, Fd.sl, opJoinRev, fLRev, runDef, runDefI, ioAt, insA, chL, getO, setO, getL, setL, obAt, eFd, eFV, eFB, fFld, fMeth, fMethI, fMake, fCallI, aHere, fIsO, sFldS, setF, Rs.fd, Fd.d, O.d, fMethD, chF, sAppF, fPopF, fPop0, fPop1, sIns, sRetI, sRetNI, fZip, fML, opAny, opAll, opSorted, opMaxL, opMinL, opRfind, opCount, List.map_cons, List.map_nil, cInA, cNinA, inD, itD, fItA, eItA, cLtA, cLeA, fRr1, fRr2, opInt, sPar, fCallD, fRaise0, fRaise1, sTryAs, sTry, aftr, noX, allEq_const, fXf, fXi, fLc, lcL, unE, tYs, Vs.ret, xLock, inis, bof, sNil, sSeq, sAsg, sRet, sRetV, sRetN, sIf, sDrop, sTg, sFor, sBrk, sCnt, sApp, sExt, sOwn, sSetI, opSetI, sLock, unlk, sbnd, bnd, fOp, fCh, fCl, fCall, fLst, fTup, fSl, fIf, fAnd, fOr, fNot, fTru, fAndV, fOrV, fNotV, fNeg, fIsi, fM1, fM2, fRg1, fRg2, fEn, fRev, fSg, fTp, fIt, eIt, eB, eV, eC, frz, shm, aCons, aNil, poN, poS, Rs.d, Rs.sl, vB, List.cons_append, List.nil_append, List.append_nil, List.replicate_zero, List.replicate_succ, List.getElem?_cons_zero, List.getElem?_cons_succ, List.set_cons_zero, List.set_cons_succ, List.length_cons, List.length_nil, opLen, lenD, opList, opAdd, opSub, opMul, opMod, opDiv, opPow, opMin, opMax, opIx, opSl, cmpB, cEq, cNe, cIsN, cNotN, truD, tgN, tgT, setAll, isKd, opFind, opFind3, opStarts, opStarts3, Nat.reduceLT, Nat.reduceAdd, Nat.reduceSub, Nat.reduceLeDiff, Int.reduceLT, Int.reduceLE, Int.reduceNeg, reduceIte, and_self, true_and, and_true, decide_true, decide_false, Int.toNat_natCast, itD, lp']) ?_
  refine fin_seq (e1 := [.sh (.scr ns), .sh (.str L), .ow (pctD ps), .sh (.ob 0 a1), .sh (.ob 0 a2), .ow (stL r), .sh (.str z), .ow (strD (wds ps w r)), t8, .sh (.lst (stL ss)), .sh (.lst (strD (wds ps w ss))), .un]) (by
    unfold i3_law
    simp (disch := first | omega | assumption) only [if_pos, if_neg, decide_eq_true, decide_eq_false, atI_of, cutL_take, cutL_drop, cutL_mid, ge_iff_le, gt_iff_lt, Int.reduceToNat, Int.toNat_zero, Int.toNat_one, Bool.not_true, Bool.not_false, szl, D.key, fDNew, fDGet, sDPutV, fDSet, fRg3, fChV, fSortL, frL, frS, fSortB, sRem, sqAt, eIxI, fItm, fItV, chS, sItC, sItA, sItI, sItS, fTmp, Sl.mut, Sl.th, O.d, sqD, D.atm, sTryR, fSq, aConsF, aNilF, eO, sTgF, setFd, Fd.sl, opJoinRev, fLRev, runDef, runDefI, ioAt, insA, chL, getO, setO, getL, setL, obAt, eFd, eFV, eFB, fFld, fMeth, fMethI, fMake, fCallI, aHere, fIsO, sFldS, setF, Rs.fd, Fd.d, O.d, fMethD, chF, sAppF, fPopF, fPop0, fPop1, sIns, sRetI, sRetNI, fZip, fML, opAny, opAll, opSorted, opMaxL, opMinL, opRfind, opCount, List.map_cons, List.map_nil, cInA, cNinA, inD, itD, fItA, eItA, cLtA, cLeA, fRr1, fRr2, opInt, sPar, fCallD, fRaise0, fRaise1, sTryAs, sTry, aftr, noX, allEq_const, fXf, fXi, fLc, lcL, unE, tYs, Vs.ret, xLock, inis, bof, sNil, sSeq, sAsg, sRet, sRetV, sRetN, sIf, sDrop, sTg, sFor, sBrk, sCnt, sApp, sExt, sOwn, sSetI, opSetI, sLock, unlk, sbnd, bnd, fOp, fCh, fCl, fCall, fLst, fTup, fSl, fIf, fAnd, fOr, fNot, fTru, fAndV, fOrV, fNotV, fNeg, fIsi, fM1, fM2, fRg1, fRg2, fEn, fRev, fSg, fTp, fIt, eIt, eB, eV, eC, frz, shm, aCons, aNil, poN, poS, Rs.d, Rs.sl, vB, List.cons_append, List.nil_append, List.append_nil, List.replicate_zero, List.replicate_succ, List.getElem?_cons_zero, List.getElem?_cons_succ, List.set_cons_zero, List.set_cons_succ, List.length_cons, List.length_nil, opLen, lenD, opList, opAdd, opSub, opMul, opMod, opDiv, opPow, opMin, opMax, opIx, opSl, cmpB, cEq, cNe, cIsN, cNotN, truD, tgN, tgT, setAll, isKd, opFind, opFind3, opStarts, opStarts3, Nat.reduceLT, Nat.reduceAdd, Nat.reduceSub, Nat.reduceLeDiff, Int.reduceLT, Int.reduceLE, Int.reduceNeg, reduceIte, and_self, true_and, and_true, decide_true, decide_false, Int.toNat_natCast, gs_words_on, won2, okR, evR, Bool.not_true, sla, sla2, decide_true]) ?_
  refine fin_seq (e1 := [.sh (.scr ns), .sh (.str L), .ow (pctD ps), .sh (.ob 0 a1), .sh (.ob 0 a2), .ow (stL r), .sh (.str z), .ow (strD (wds ps w r)), t8, .sh (.lst (stL ss)), .sh (.lst (strD (wds ps w ss))), .un]) (by
    unfold i4_law
    simp (disch := first | omega | assumption) only [if_pos, if_neg, decide_eq_true, decide_eq_false, atI_of, cutL_take, cutL_drop, cutL_mid, ge_iff_le, gt_iff_lt, Int.reduceToNat, Int.toNat_zero, Int.toNat_one, Bool.not_true, Bool.not_false, szl, D.key, fDNew, fDGet, sDPutV, fDSet, fRg3, fChV, fSortL, frL, frS, fSortB, sRem, sqAt, eIxI, fItm, fItV, chS, sItC, sItA, sItI, sItS, fTmp, Sl.mut, Sl.th, O.d, sqD, D.atm, sTryR, fSq, aConsF, aNilF, eO, sTgF, setFd, Fd.sl, opJoinRev, fLRev, runDef, runDefI, ioAt, insA, chL, getO, setO, getL, setL, obAt, eFd, eFV, eFB, fFld, fMeth, fMethI, fMake, fCallI, aHere, fIsO, sFldS, setF, Rs.fd, Fd.d, O.d, fMethD, chF, sAppF, fPopF, fPop0, fPop1, sIns, sRetI, sRetNI, fZip, fML, opAny, opAll, opSorted, opMaxL, opMinL, opRfind, opCount, List.map_cons, List.map_nil, cInA, cNinA, inD, itD, fItA, eItA, cLtA, cLeA, fRr1, fRr2, opInt, sPar, fCallD, fRaise0, fRaise1, sTryAs, sTry, aftr, noX, allEq_const, fXf, fXi, fLc, lcL, unE, tYs, Vs.ret, xLock, inis, bof, sNil, sSeq, sAsg, sRet, sRetV, sRetN, sIf, sDrop, sTg, sFor, sBrk, sCnt, sApp, sExt, sOwn, sSetI, opSetI, sLock, unlk, sbnd, bnd, fOp, fCh, fCl, fCall, fLst, fTup, fSl, fIf, fAnd, fOr, fNot, fTru, fAndV, fOrV, fNotV, fNeg, fIsi, fM1, fM2, fRg1, fRg2, fEn, fRev, fSg, fTp, fIt, eIt, eB, eV, eC, frz, shm, aCons, aNil, poN, poS, Rs.d, Rs.sl, vB, List.cons_append, List.nil_append, List.append_nil, List.replicate_zero, List.replicate_succ, List.getElem?_cons_zero, List.getElem?_cons_succ, List.set_cons_zero, List.set_cons_succ, List.length_cons, List.length_nil, opLen, lenD, opList, opAdd, opSub, opMul, opMod, opDiv, opPow, opMin, opMax, opIx, opSl, cmpB, cEq, cNe, cIsN, cNotN, truD, tgN, tgT, setAll, isKd, opFind, opFind3, opStarts, opStarts3, Nat.reduceLT, Nat.reduceAdd, Nat.reduceSub, Nat.reduceLeDiff, Int.reduceLT, Int.reduceLE, Int.reduceNeg, reduceIte, and_self, true_and, and_true, decide_true, decide_false, Int.toNat_natCast, gs_first, gs_last, fi2, la2, fs2, sla2, Bool.not_true, decide_true]) ?_
  refine fin_seq (e1 := [.sh (.scr ns), .sh (.str L), .ow (pctD ps), .sh (.ob 0 a1), .sh (.ob 0 a2), .ow (stL r), .sh (.str z), .ow (strD (wds ps w r)), t8, .sh (.lst (stL ss)), .sh (.lst (strD (wds ps w ss))), .un]) (by
    unfold i5_law
    simp (disch := first | omega | assumption) only [if_pos, if_neg, decide_eq_true, decide_eq_false, atI_of, cutL_take, cutL_drop, cutL_mid, ge_iff_le, gt_iff_lt, Int.reduceToNat, Int.toNat_zero, Int.toNat_one, Bool.not_true, Bool.not_false, szl, D.key, fDNew, fDGet, sDPutV, fDSet, fRg3, fChV, fSortL, frL, frS, fSortB, sRem, sqAt, eIxI, fItm, fItV, chS, sItC, sItA, sItI, sItS, fTmp, Sl.mut, Sl.th, O.d, sqD, D.atm, sTryR, fSq, aConsF, aNilF, eO, sTgF, setFd, Fd.sl, opJoinRev, fLRev, runDef, runDefI, ioAt, insA, chL, getO, setO, getL, setL, obAt, eFd, eFV, eFB, fFld, fMeth, fMethI, fMake, fCallI, aHere, fIsO, sFldS, setF, Rs.fd, Fd.d, O.d, fMethD, chF, sAppF, fPopF, fPop0, fPop1, sIns, sRetI, sRetNI, fZip, fML, opAny, opAll, opSorted, opMaxL, opMinL, opRfind, opCount, List.map_cons, List.map_nil, cInA, cNinA, inD, itD, fItA, eItA, cLtA, cLeA, fRr1, fRr2, opInt, sPar, fCallD, fRaise0, fRaise1, sTryAs, sTry, aftr, noX, allEq_const, fXf, fXi, fLc, lcL, unE, tYs, Vs.ret, xLock, inis, bof, sNil, sSeq, sAsg, sRet, sRetV, sRetN, sIf, sDrop, sTg, sFor, sBrk, sCnt, sApp, sExt, sOwn, sSetI, opSetI, sLock, unlk, sbnd, bnd, fOp, fCh, fCl, fCall, fLst, fTup, fSl, fIf, fAnd, fOr, fNot, fTru, fAndV, fOrV, fNotV, fNeg, fIsi, fM1, fM2, fRg1, fRg2, fEn, fRev, fSg, fTp, fIt, eIt, eB, eV, eC, frz, shm, aCons, aNil, poN, poS, Rs.d, Rs.sl, vB, List.cons_append, List.nil_append, List.append_nil, List.replicate_zero, List.replicate_succ, List.getElem?_cons_zero, List.getElem?_cons_succ, List.set_cons_zero, List.set_cons_succ, List.length_cons, List.length_nil, opLen, lenD, opList, opAdd, opSub, opMul, opMod, opDiv, opPow, opMin, opMax, opIx, opSl, cmpB, cEq, cNe, cIsN, cNotN, truD, tgN, tgT, setAll, isKd, opFind, opFind3, opStarts, opStarts3, Nat.reduceLT, Nat.reduceAdd, Nat.reduceSub, Nat.reduceLeDiff, Int.reduceLT, Int.reduceLE, Int.reduceNeg, reduceIte, and_self, true_and, and_true, decide_true, decide_false, Int.toNat_natCast, gs_straight, st2, gs_steps_told, sto2, sa2, Bool.not_true]) ?_
  simp (disch := first | omega | assumption) only [if_pos, if_neg, decide_eq_true, decide_eq_false, atI_of, cutL_take, cutL_drop, cutL_mid, ge_iff_le, gt_iff_lt, Int.reduceToNat, Int.toNat_zero, Int.toNat_one, Bool.not_true, Bool.not_false, szl, D.key, fDNew, fDGet, sDPutV, fDSet, fRg3, fChV, fSortL, frL, frS, fSortB, sRem, sqAt, eIxI, fItm, fItV, chS, sItC, sItA, sItI, sItS, fTmp, Sl.mut, Sl.th, O.d, sqD, D.atm, sTryR, fSq, aConsF, aNilF, eO, sTgF, setFd, Fd.sl, opJoinRev, fLRev, runDef, runDefI, ioAt, insA, chL, getO, setO, getL, setL, obAt, eFd, eFV, eFB, fFld, fMeth, fMethI, fMake, fCallI, aHere, fIsO, sFldS, setF, Rs.fd, Fd.d, O.d, fMethD, chF, sAppF, fPopF, fPop0, fPop1, sIns, sRetI, sRetNI, fZip, fML, opAny, opAll, opSorted, opMaxL, opMinL, opRfind, opCount, List.map_cons, List.map_nil, cInA, cNinA, inD, itD, fItA, eItA, cLtA, cLeA, fRr1, fRr2, opInt, sPar, fCallD, fRaise0, fRaise1, sTryAs, sTry, aftr, noX, allEq_const, fXf, fXi, fLc, lcL, unE, tYs, Vs.ret, xLock, inis, bof, sNil, sSeq, sAsg, sRet, sRetV, sRetN, sIf, sDrop, sTg, sFor, sBrk, sCnt, sApp, sExt, sOwn, sSetI, opSetI, sLock, unlk, sbnd, bnd, fOp, fCh, fCl, fCall, fLst, fTup, fSl, fIf, fAnd, fOr, fNot, fTru, fAndV, fOrV, fNotV, fNeg, fIsi, fM1, fM2, fRg1, fRg2, fEn, fRev, fSg, fTp, fIt, eIt, eB, eV, eC, frz, shm, aCons, aNil, poN, poS, Rs.d, Rs.sl, vB, List.cons_append, List.nil_append, List.append_nil, List.replicate_zero, List.replicate_succ, List.getElem?_cons_zero, List.getElem?_cons_succ, List.set_cons_zero, List.set_cons_succ, List.length_cons, List.length_nil, opLen, lenD, opList, opAdd, opSub, opMul, opMod, opDiv, opPow, opMin, opMax, opIx, opSl, cmpB, cEq, cNe, cIsN, cNotN, truD, tgN, tgT, setAll, isKd, opFind, opFind3, opStarts, opStarts3, Nat.reduceLT, Nat.reduceAdd, Nat.reduceSub, Nat.reduceLeDiff, Int.reduceLT, Int.reduceLE, Int.reduceNeg, reduceIte, and_self, true_and, and_true, decide_true, decide_false, Int.toNat_natCast, gs_steps_told, sto, sa, gs_words_on, won, okW, evW]
  rfl

end Lw

set_option Elab.async false
set_option linter.all false
set_option maxRecDepth 100000
set_option maxHeartbeats 4000000
namespace Lw
open PySem L2 Vs
def topS (i : Nat) : Stmt := PySem.Challenge.pw_letterlaw_k27_straight.main.body.getD i (.Pass ⟨0, 0, 0, 0⟩)
structure Txt (κ : Kx) (mg : Str → Option Value) : Prop where
  xf : κ.xf = xf
  g_LetterError : mg "LetterError" = some (.ref (κ.xc 0))
  g_NoUse : mg "NoUse" = some (.ref (κ.xc 1))
  l_NoUse : ∃ fI, PySem.LowX_NoUse.LowTxt κ.K mg (κ.xc 1) fI
  x_NoUse : XsOk κ xs 1
  fld_pacts : FldOk κ "pacts" fld_pacts
  fld_steps : FldOk κ "steps" fld_steps
  fld_words : FldOk κ "words" fld_words
  m_0_first : ∃ (f : Addr) (fd : FuncData), Fun κ.K "first" "Chain.first" (inClass (topS 9) 1) f fd ∧ L2.Cls κ.K (κ.cl 0) ∧ L2.Meth κ.K (κ.cl 0) "first" f ∧ ("first" : Str) ∉ κ.fl 0
  m_0_last : ∃ (f : Addr) (fd : FuncData), Fun κ.K "last" "Chain.last" (inClass (topS 9) 2) f fd ∧ L2.Cls κ.K (κ.cl 0) ∧ L2.Meth κ.K (κ.cl 0) "last" f ∧ ("last" : Str) ∉ κ.fl 0
  m_0_steps_told : ∃ (f : Addr) (fd : FuncData), Fun κ.K "steps_told" "Chain.steps_told" (inClass (topS 9) 4) f fd ∧ L2.Cls κ.K (κ.cl 0) ∧ L2.Meth κ.K (κ.cl 0) "steps_told" f ∧ ("steps_told" : Str) ∉ κ.fl 0
  m_0_straight : ∃ (f : Addr) (fd : FuncData), Fun κ.K "straight" "Chain.straight" (inClass (topS 9) 8) f fd ∧ L2.Cls κ.K (κ.cl 0) ∧ L2.Meth κ.K (κ.cl 0) "straight" f ∧ ("straight" : Str) ∉ κ.fl 0
  m_0_words_on : ∃ (f : Addr) (fd : FuncData), Fun κ.K "words_on" "Chain.words_on" (inClass (topS 9) 3) f fd ∧ L2.Cls κ.K (κ.cl 0) ∧ L2.Meth κ.K (κ.cl 0) "words_on" f ∧ ("words_on" : Str) ∉ κ.fl 0
  mk_Chain : ∃ (f : Addr) (fd : FuncData), mg "Chain" = some (.ref (κ.cl 0)) ∧ L2.Mk κ.K (κ.cl 0) f ∧ Fun κ.K "__init__" "Chain.__init__" (inClass (topS 9) 0) f fd
  d_law_letters : ∃ (f : Addr) (fd : FuncData), Fun κ.K "_law_letters" "_law_letters" (topS 13) f fd ∧ mg "_law_letters" = some (.ref f)
  d_law_uses : ∃ (f : Addr) (fd : FuncData), Fun κ.K "_law_uses" "_law_uses" (topS 17) f fd ∧ mg "_law_uses" = some (.ref f)
  d_law_after : ∃ (f : Addr) (fd : FuncData), Fun κ.K "_law_after" "_law_after" (topS 16) f fd ∧ mg "_law_after" = some (.ref f)
  d_law_chain : ∃ (f : Addr) (fd : FuncData), Fun κ.K "_law_chain" "_law_chain" (topS 18) f fd ∧ mg "_law_chain" = some (.ref f)
  d_put : ∃ (f : Addr) (fd : FuncData), Fun κ.K "put" "put" (topS 5) f fd ∧ mg "put" = some (.ref f)
  d_used : ∃ (f : Addr) (fd : FuncData), Fun κ.K "used" "used" (topS 7) f fd ∧ mg "used" = some (.ref f)
  d_walked : ∃ (f : Addr) (fd : FuncData), Fun κ.K "walked" "walked" (topS 8) f fd ∧ mg "walked" = some (.ref f)
  d_law_cell_at : ∃ (f : Addr) (fd : FuncData), Fun κ.K "_law_cell_at" "_law_cell_at" (topS 11) f fd ∧ mg "_law_cell_at" = some (.ref f)
  d_law_word : ∃ (f : Addr) (fd : FuncData), Fun κ.K "_law_word" "_law_word" (topS 14) f fd ∧ mg "_law_word" = some (.ref f)
  d_law_pact : ∃ (f : Addr) (fd : FuncData), Fun κ.K "_law_pact" "_law_pact" (topS 15) f fd ∧ mg "_law_pact" = some (.ref f)
  d_law_whole : ∃ (f : Addr) (fd : FuncData), Fun κ.K "_law_whole" "_law_whole" (topS 12) f fd ∧ mg "_law_whole" = some (.ref f)
  d_law_steps_are : ∃ (f : Addr) (fd : FuncData), Fun κ.K "_law_steps_are" "_law_steps_are" (topS 19) f fd ∧ mg "_law_steps_are" = some (.ref f)
  d_law_due : ∃ (f : Addr) (fd : FuncData), Fun κ.K "_law_due" "_law_due" (topS 20) f fd ∧ mg "_law_due" = some (.ref f)
  d_law : ∃ (f : Addr) (fd : FuncData), Fun κ.K "law" "law" (topS 21) f fd ∧ mg "law" = some (.ref f)
  z_range : mg "range" = none
  z_enumerate : mg "enumerate" = none
  z_len : mg "len" = none
  z_list : mg "list" = none
  z_isinstance : mg "isinstance" = none
  z_bool : mg "bool" = none
  z_int : mg "int" = none
  z_zip : mg "zip" = none
  z_tuple : mg "tuple" = none
section
variable {P : Program} {w : World} {κ : Kx} {mg : Str → Option Value} {base : Heap}
abbrev s_law_letters : Stmt := topS 13
theorem sc_law_letters : FnScope ["_law_cell", "_law_most", "_law_alphabet", "_law_many", "_law_start", "_law_apart", "_law_k"] ["_law_cell", "_law_most"] (defScope s_law_letters) := ⟨rfl, rfl, rfl, by decide +kernel, rfl, by decide +kernel, by decide +kernel⟩
theorem fn_law_letters {f : Addr} {fd : FuncData} (F : Fun κ.K "_law_letters" "_law_letters" s_law_letters f fd) (T : Txt κ mg) : FnOk P w κ.K mg base (L2.CX P w) 1 f fd ["_law_cell", "_law_most"] (spV κ [true, true] g_law_letters) := by
  have sc := sc_law_letters
  refine F.okX sc (fun vs H Q E h => spV_len h) fun cdv A outer s H vs Q E hr h => ⟨tS κ (fun c d _ H' => E c d H') b_law_letters, ?_, v_end (k := 5) rfl h⟩
  have tk : Takes (cxOf (L2.CX P w) P w κ.K mg base ["_law_cell", "_law_most", "_law_alphabet", "_law_many", "_law_start", "_law_apart", "_law_k"] "_law_letters" (defScope s_law_letters) f cdv A outer s H E) (fun c d _ H' => E c d H') := takes_of rfl rfl rfl rfl
  have hp := passes_of (X := cxOf (L2.CX P w) P w κ.K mg base ["_law_cell", "_law_most", "_law_alphabet", "_law_many", "_law_start", "_law_apart", "_law_k"] "_law_letters" (defScope s_law_letters) f cdv A outer s H E) rfl
  exact s_cons (s_asg (i := 2) sc.nd rfl (by first | exact Or.inl rfl | exact Or.inr rfl) (v_sh (v_str (by rfl)))) (s_cons (s_asg (i := 3) sc.nd rfl (by first | exact Or.inl rfl | exact Or.inr rfl) (v_op o_add s_add (v_bo (v_int)) (v_bo (v_frz (v_op op_mod s_mod (b_var (pv 0)) (b_var (pv 1))))))) (s_cons (s_asg (i := 4) sc.nd rfl (by first | exact Or.inl rfl | exact Or.inr rfl) (v_op op_mod s_mod (v_bo (v_frz (v_op op_fdivW s_div (b_var (pv 0)) (b_var (pv 1))))) (v_bo (v_int)))) (s_cons (s_asg (i := 5) sc.nd rfl (by first | exact Or.inl rfl | exact Or.inr rfl) (v_op o_add s_add (v_bo (v_int)) (v_bo (v_frz (v_op o_mul s_mul (v_bo (v_int)) (v_bo (v_frz (v_op op_mod s_mod (v_bo (v_frz (v_op op_fdivW s_div (b_var (pv 0)) (v_bo (v_int))))) (v_bo (v_int)))))))))) (s_one (s_ret (v_join (v_bo (v_str (by rfl))) (v_bo (v_frz (v_lc (own := [("_law_k", 6)]) (vs := [6]) rfl sc.nd rfl (i_rg1 rfl rfl T.z_range (a_bo (b_var (pv 3)) (a_nil))) (blkOk_by (own := [("_law_k", 6)]) (N := ["_law_cell", "_law_most", "_law_alphabet", "_law_many", "_law_start", "_law_apart", "_law_k"]) (sc := defScope s_law_letters) (by decide +kernel)) (fun _ _ _ _ _ => pg_name (i := 6) sc.nd rfl (by first | exact Or.inl rfl | exact Or.inr rfl)) (to_name 6 rfl) (fun _ _ _ _ _ => pts_yes) (fun _ _ _ _ _ => v_ix rfl (b_var (pv 2)) (v_bo (v_frz (v_op op_mod s_mod (v_bo (v_frz (v_op o_add s_add (b_var (pv 4)) (v_bo (v_frz (v_op o_mul s_mul (b_var (pv 5)) (b_var (pv 6)))))))) (v_bo (v_int))))) (fun _ _ => rfl)))))))))))
theorem ok_law_letters (T : Txt κ mg) : VFn P w κ mg base "_law_letters" 1 [true, true] g_law_letters := by
  obtain ⟨f, fd, F, hm⟩ := T.d_law_letters
  exact ⟨f, fd, ["_law_cell", "_law_most"], hm, F.kp, fn_law_letters F T, F.binds (ps := ["_law_cell", "_law_most"]) fun _ _ _ _ _ _ us hl => match us, hl with | [_, _], _ => rfl⟩
abbrev s_law_uses : Stmt := topS 17
theorem sc_law_uses : FnScope ["_law_pacts", "_law_word_here", "_law_most", "_law_uses_here", "_law_number", "_law_pact_here", "_law_forth", "_law_old", "_law_new", "_law_place"] ["_law_pacts", "_law_word_here", "_law_most"] (defScope s_law_uses) := ⟨rfl, rfl, rfl, by decide +kernel, rfl, by decide +kernel, by decide +kernel⟩
theorem fn_law_uses {f : Addr} {fd : FuncData} (F : Fun κ.K "_law_uses" "_law_uses" s_law_uses f fd) (T : Txt κ mg) : FnOk P w κ.K mg base (L2.CX P w) 1 f fd ["_law_pacts", "_law_word_here", "_law_most"] (spV κ [true, true, true] g_law_uses) := by
  have sc := sc_law_uses
  refine F.okX sc (fun vs H Q E h => spV_len h) fun cdv A outer s H vs Q E hr h => ⟨tS κ (fun c d _ H' => E c d H') b_law_uses, ?_, v_end (k := 7) rfl h⟩
  have tk : Takes (cxOf (L2.CX P w) P w κ.K mg base ["_law_pacts", "_law_word_here", "_law_most", "_law_uses_here", "_law_number", "_law_pact_here", "_law_forth", "_law_old", "_law_new", "_law_place"] "_law_uses" (defScope s_law_uses) f cdv A outer s H E) (fun c d _ H' => E c d H') := takes_of rfl rfl rfl rfl
  have hp := passes_of (X := cxOf (L2.CX P w) P w κ.K mg base ["_law_pacts", "_law_word_here", "_law_most", "_law_uses_here", "_law_number", "_law_pact_here", "_law_forth", "_law_old", "_law_new", "_law_place"] "_law_uses" (defScope s_law_uses) f cdv A outer s H E) rfl
  exact s_cons (s_asg (i := 3) sc.nd rfl (by first | exact Or.inl rfl | exact Or.inr rfl) (v_lst (ms := []) rfl (a_nil))) (s_cons (s_lock (i := 0) (s_for hp rfl (i_enum rfl T.z_enumerate (l_name (pv 0))) (pg_tup rfl (pgs_cons (pg_name (i := 4) sc.nd rfl (by first | exact Or.inl rfl | exact Or.inr rfl)) (pgs_cons (pg_name (i := 5) sc.nd rfl (by first | exact Or.inl rfl | exact Or.inr rfl)) (pgs_nil)))) (tg_tup [4, 5] rfl) (s_one (s_for hp rfl (i_tup (v_tup (ms := [false, false]) rfl (a_sh (v_bl) (a_sh (v_bl) (a_nil))))) (pg_name (i := 6) sc.nd rfl (by first | exact Or.inl rfl | exact Or.inr rfl)) (tg_name 6) (s_cons (s_tg (pg_tup rfl (pgs_cons (pg_name (i := 7) sc.nd rfl (by first | exact Or.inl rfl | exact Or.inr rfl)) (pgs_cons (pg_name (i := 8) sc.nd rfl (by first | exact Or.inl rfl | exact Or.inr rfl)) (pgs_nil)))) (tg_tup [7, 8] rfl) (im (v_var (pv 5)))) (s_cons (s_if (t_not (t_tru rfl (b_var (pv 6)))) (s_one (s_par (i := 7) (j := 8) rfl sc.nd rfl rfl (by decide) rfl rfl (a_sh (v_var (pv 8)) (a_sh (v_var (pv 7)) (a_nil))) (by rfl))) (s_nil)) (s_one (s_if (t_cmp (o_leA rfl hr.units) s_leA (v_bo (v_frz (v_op o_add s_add (v_bo (v_frz (v_op op_sub s_sub (v_bo (v_frz (v_callB call_len s_len rfl T.z_len PySem.boot_len (a_bo (b_var (pv 1)) (a_nil))))) (v_bo (v_frz (v_callB call_len s_len rfl T.z_len PySem.boot_len (a_bo (b_var (pv 7)) (a_nil)))))))) (v_bo (v_frz (v_callB call_len s_len rfl T.z_len PySem.boot_len (a_bo (b_var (pv 8)) (a_nil)))))))) (b_var (pv 2)) (nomark _)) (s_one (s_for hp rfl (i_rg1 rfl rfl T.z_range (a_bo (v_bo (v_frz (v_op o_add s_add (v_bo (v_frz (v_op op_sub s_sub (v_bo (v_frz (v_callB call_len s_len rfl T.z_len PySem.boot_len (a_bo (b_var (pv 1)) (a_nil))))) (v_bo (v_frz (v_callB call_len s_len rfl T.z_len PySem.boot_len (a_bo (b_var (pv 7)) (a_nil)))))))) (v_bo (v_int))))) (a_nil))) (pg_name (i := 9) sc.nd rfl (by first | exact Or.inl rfl | exact Or.inr rfl)) (tg_name 9) (s_one (s_if (t_cmp (o_eq rfl hr.units) s_eq (v_bo (v_frz (v_sl rfl (b_var (pv 1)) (o_some (b_var (pv 9))) (o_some (v_bo (v_frz (v_op o_add s_add (b_var (pv 9)) (v_bo (v_frz (v_callB call_len s_len rfl T.z_len PySem.boot_len (a_bo (b_var (pv 7)) (a_nil)))))))))))) (b_var (pv 7)) (nomark _)) (s_one (s_app (i := 3) rfl (pv 3) (v_tup (ms := [false, false, false]) rfl (a_sh (v_var (pv 4)) (a_sh (v_var (pv 9)) (a_sh (v_var (pv 6)) (a_nil))))))) (s_nil))))) (s_nil))))))))) (s_one (s_retV (pv 3))))
theorem ok_law_uses (T : Txt κ mg) : VFn P w κ mg base "_law_uses" 1 [true, true, true] g_law_uses := by
  obtain ⟨f, fd, F, hm⟩ := T.d_law_uses
  exact ⟨f, fd, ["_law_pacts", "_law_word_here", "_law_most"], hm, F.kp, fn_law_uses F T, F.binds (ps := ["_law_pacts", "_law_word_here", "_law_most"]) fun _ _ _ _ _ _ us hl => match us, hl with | [_, _, _], _ => rfl⟩
abbrev s_law_after : Stmt := topS 16
theorem sc_law_after : FnScope ["_law_pacts", "_law_word_here", "_law_step", "_law_number", "_law_place", "_law_forth", "_law_old", "_law_new"] ["_law_pacts", "_law_word_here", "_law_step"] (defScope s_law_after) := ⟨rfl, rfl, rfl, by decide +kernel, rfl, by decide +kernel, by decide +kernel⟩
theorem fn_law_after {f : Addr} {fd : FuncData} (F : Fun κ.K "_law_after" "_law_after" s_law_after f fd) (T : Txt κ mg) : FnOk P w κ.K mg base (L2.CX P w) 1 f fd ["_law_pacts", "_law_word_here", "_law_step"] (spV κ [true, true, false] g_law_after) := by
  have sc := sc_law_after
  refine F.okX sc (fun vs H Q E h => spV_len h) fun cdv A outer s H vs Q E hr h => ⟨tS κ (fun c d _ H' => E c d H') b_law_after, ?_, v_end (k := 5) rfl h⟩
  have tk : Takes (cxOf (L2.CX P w) P w κ.K mg base ["_law_pacts", "_law_word_here", "_law_step", "_law_number", "_law_place", "_law_forth", "_law_old", "_law_new"] "_law_after" (defScope s_law_after) f cdv A outer s H E) (fun c d _ H' => E c d H') := takes_of rfl rfl rfl rfl
  have hp := passes_of (X := cxOf (L2.CX P w) P w κ.K mg base ["_law_pacts", "_law_word_here", "_law_step", "_law_number", "_law_place", "_law_forth", "_law_old", "_law_new"] "_law_after" (defScope s_law_after) f cdv A outer s H E) rfl
  exact s_cons (s_tg (pg_tup rfl (pgs_cons (pg_name (i := 3) sc.nd rfl (by first | exact Or.inl rfl | exact Or.inr rfl)) (pgs_cons (pg_name (i := 4) sc.nd rfl (by first | exact Or.inl rfl | exact Or.inr rfl)) (pgs_cons (pg_name (i := 5) sc.nd rfl (by first | exact Or.inl rfl | exact Or.inr rfl)) (pgs_nil))))) (tg_tup [3, 4, 5] rfl) (im (v_var (pv 2)))) (s_cons (s_if (PW.pt (w_or (t_cmp (o_ltA rfl hr.units) s_ltA (b_var (pv 3)) (v_bo (v_int)) (nomark _)) (w_or (t_cmp o_ge s_cm (b_var (pv 3)) (v_bo (v_frz (v_callB call_len s_len rfl T.z_len PySem.boot_len (a_bo (b_var (pv 0)) (a_nil))))) (nomark _)) (w_or (t_cmp (o_ltA rfl hr.units) s_ltA (b_var (pv 4)) (v_bo (v_int)) (nomark _)) (w_or1 (t_cmp o_gt s_cm (b_var (pv 4)) (v_bo (v_frz (v_callB call_len s_len rfl T.z_len PySem.boot_len (a_bo (b_var (pv 1)) (a_nil))))) (nomark _))))))) (s_one (s_ret (v_sh (v_non)))) (s_nil)) (s_cons (s_tg (pg_tup rfl (pgs_cons (pg_name (i := 6) sc.nd rfl (by first | exact Or.inl rfl | exact Or.inr rfl)) (pgs_cons (pg_name (i := 7) sc.nd rfl (by first | exact Or.inl rfl | exact Or.inr rfl)) (pgs_nil)))) (tg_tup [6, 7] rfl) (im (v_ix rfl (b_var (pv 0)) (b_var (pv 3)) (fun _ _ => rfl)))) (s_cons (s_if (t_not (t_tru rfl (b_var (pv 5)))) (s_one (s_par (i := 6) (j := 7) rfl sc.nd rfl rfl (by decide) rfl rfl (a_sh (v_var (pv 7)) (a_sh (v_var (pv 6)) (a_nil))) (by rfl))) (s_nil)) (s_cons (s_if (t_cmp (o_ne rfl hr.units) s_ne (v_bo (v_frz (v_sl rfl (b_var (pv 1)) (o_some (b_var (pv 4))) (o_some (v_bo (v_frz (v_op o_add s_add (b_var (pv 4)) (v_bo (v_frz (v_callB call_len s_len rfl T.z_len PySem.boot_len (a_bo (b_var (pv 6)) (a_nil)))))))))))) (b_var (pv 6)) (nomark _)) (s_one (s_ret (v_sh (v_non)))) (s_nil)) (s_one (s_ret (v_op o_add s_add (v_bo (v_frz (v_op o_add s_add (v_bo (v_frz (v_sl rfl (b_var (pv 1)) (o_none) (o_some (b_var (pv 4)))))) (b_var (pv 7))))) (v_bo (v_frz (v_sl rfl (b_var (pv 1)) (o_some (v_bo (v_frz (v_op o_add s_add (b_var (pv 4)) (v_bo (v_frz (v_callB call_len s_len rfl T.z_len PySem.boot_len (a_bo (b_var (pv 6)) (a_nil))))))))) (o_none)))))))))))
theorem ok_law_after (T : Txt κ mg) : VFn P w κ mg base "_law_after" 1 [true, true, false] g_law_after := by
  obtain ⟨f, fd, F, hm⟩ := T.d_law_after
  exact ⟨f, fd, ["_law_pacts", "_law_word_here", "_law_step"], hm, F.kp, fn_law_after F T, F.binds (ps := ["_law_pacts", "_law_word_here", "_law_step"]) fun _ _ _ _ _ _ us hl => match us, hl with | [_, _, _], _ => rfl⟩
abbrev s_law_chain : Stmt := topS 18
theorem sc_law_chain : FnScope ["_law_pacts", "_law_word_here", "_law_cells", "_law_most", "_law_steps", "_law_words", "_law_cell", "_law_uses_here"] ["_law_pacts", "_law_word_here", "_law_cells", "_law_most"] (defScope s_law_chain) := ⟨rfl, rfl, rfl, by decide +kernel, rfl, by decide +kernel, by decide +kernel⟩
theorem fn_law_chain {f : Addr} {fd : FuncData} (F : Fun κ.K "_law_chain" "_law_chain" s_law_chain f fd) (T : Txt κ mg) (K_law_uses : VFn P w κ mg base "_law_uses" 1 [true, true, true] g_law_uses) (K_law_after : VFn P w κ mg base "_law_after" 1 [true, true, false] g_law_after) : FnOk P w κ.K mg base (L2.CX P w) 2 f fd ["_law_pacts", "_law_word_here", "_law_cells", "_law_most"] (spV κ [true, false, true, true] g_law_chain) := by
  have sc := sc_law_chain
  refine F.okX sc (fun vs H Q E h => spV_len h) fun cdv A outer s H vs Q E hr h => ⟨tS κ (fun c d _ H' => E c d H') b_law_chain, ?_, v_end (k := 4) rfl h⟩
  have tk : Takes (cxOf (L2.CX P w) P w κ.K mg base ["_law_pacts", "_law_word_here", "_law_cells", "_law_most", "_law_steps", "_law_words", "_law_cell", "_law_uses_here"] "_law_chain" (defScope s_law_chain) f cdv A outer s H E) (fun c d _ H' => E c d H') := takes_of rfl rfl rfl rfl
  have hp := passes_of (X := cxOf (L2.CX P w) P w κ.K mg base ["_law_pacts", "_law_word_here", "_law_cells", "_law_most", "_law_steps", "_law_words", "_law_cell", "_law_uses_here"] "_law_chain" (defScope s_law_chain) f cdv A outer s H E) rfl
  exact s_cons (s_asg (i := 4) sc.nd rfl (by first | exact Or.inl rfl | exact Or.inr rfl) (v_lst (ms := []) rfl (a_nil))) (s_cons (s_asg (i := 5) sc.nd rfl (by first | exact Or.inl rfl | exact Or.inr rfl) (v_lst (ms := [false]) rfl (a_sh (v_var (pv 1)) (a_nil)))) (s_cons (s_lock (i := 2) (s_for hp rfl (i_anyN rfl (pv 2)) (pg_name (i := 6) sc.nd rfl (by first | exact Or.inl rfl | exact Or.inr rfl)) (tg_name 6) (s_cons (s_asg (i := 7) sc.nd rfl (by first | exact Or.inl rfl | exact Or.inr rfl) (v_call K_law_uses rfl (hr.mono (by decide)) tk rfl (a_bo (b_var (pv 0)) (a_bo (b_var (pv 1)) (a_bo (b_var (pv 3)) (a_nil)))))) (s_one (s_if (t_cmp o_gt s_cm (v_bo (v_frz (v_callB call_len s_len rfl T.z_len PySem.boot_len (a_bo (b_var (pv 7)) (a_nil))))) (v_bo (v_int)) (nomark _)) (s_cons (s_app (i := 4) rfl (pv 4) (v_ix rfl (b_var (pv 7)) (v_bo (v_frz (v_op op_mod s_mod (b_var (pv 6)) (v_bo (v_frz (v_callB call_len s_len rfl T.z_len PySem.boot_len (a_bo (b_var (pv 7)) (a_nil)))))))) (fun _ _ => rfl))) (s_cons (s_asg (i := 1) sc.nd rfl (by first | exact Or.inl rfl | exact Or.inr rfl) (v_call K_law_after rfl (hr.mono (by decide)) tk rfl (a_bo (b_var (pv 0)) (a_bo (b_var (pv 1)) (a_sh (v_ix rfl (b_var (pv 4)) (v_bo (v_neg (v_int))) (fun _ _ => rfl)) (a_nil)))))) (s_one (s_app (i := 5) rfl (pv 5) (v_var (pv 1)))))) (s_nil)))))) (s_one (s_ret (v_sh (v_tup (ms := [false, false]) rfl (a_sh (v_var (pv 4)) (a_sh (v_var (pv 5)) (a_nil)))))))))
theorem ok_law_chain (T : Txt κ mg) (K_law_uses : VFn P w κ mg base "_law_uses" 1 [true, true, true] g_law_uses) (K_law_after : VFn P w κ mg base "_law_after" 1 [true, true, false] g_law_after) : VFn P w κ mg base "_law_chain" 2 [true, false, true, true] g_law_chain := by
  obtain ⟨f, fd, F, hm⟩ := T.d_law_chain
  exact ⟨f, fd, ["_law_pacts", "_law_word_here", "_law_cells", "_law_most"], hm, F.kp, fn_law_chain F T K_law_uses K_law_after, F.binds (ps := ["_law_pacts", "_law_word_here", "_law_cells", "_law_most"]) fun _ _ _ _ _ _ us hl => match us, hl with | [_, _, _, _], _ => rfl⟩
abbrev s_put : Stmt := topS 5
theorem sc_put : FnScope ["word", "place", "old", "new"] ["word", "place", "old", "new"] (defScope s_put) := ⟨rfl, rfl, rfl, by decide +kernel, rfl, by decide +kernel, by decide +kernel⟩
theorem fn_put {f : Addr} {fd : FuncData} (F : Fun κ.K "put" "put" s_put f fd) (T : Txt κ mg) : FnOk P w κ.K mg base (L2.CX P w) 1 f fd ["word", "place", "old", "new"] (spV κ [true, true, true, true] g_put) := by
  have sc := sc_put
  refine F.okX sc (fun vs H Q E h => spV_len h) fun cdv A outer s H vs Q E hr h => ⟨tS κ (fun c d _ H' => E c d H') b_put, ?_, v_end (k := 0) rfl h⟩
  have tk : Takes (cxOf (L2.CX P w) P w κ.K mg base ["word", "place", "old", "new"] "put" (defScope s_put) f cdv A outer s H E) (fun c d _ H' => E c d H') := takes_of rfl rfl rfl rfl
  have hp := passes_of (X := cxOf (L2.CX P w) P w κ.K mg base ["word", "place", "old", "new"] "put" (defScope s_put) f cdv A outer s H E) rfl
  exact s_cons (s_if (PW.pt (w_or (t_cmp (o_ltA rfl hr.units) s_ltA (b_var (pv 1)) (v_bo (v_int)) (nomark _)) (w_or (t_cmp o_gt s_cm (b_var (pv 1)) (v_bo (v_frz (v_callB call_len s_len rfl T.z_len PySem.boot_len (a_bo (b_var (pv 0)) (a_nil))))) (nomark _)) (w_or1 (t_not (t_tru rfl (v_bo (v_frz (v_starts (v_bo (v_frz (v_sl rfl (b_var (pv 0)) (o_some (b_var (pv 1))) (o_none)))) (b_var (pv 2))))))))))) (s_one (s_raise_NoUse (c := 1) rfl rfl (congrFun T.xf 1) T.l_NoUse.choose_spec hr tk (v_bo (v_int)))) (s_nil)) (s_one (s_ret (v_op o_add s_add (v_bo (v_frz (v_op o_add s_add (v_bo (v_frz (v_sl rfl (b_var (pv 0)) (o_none) (o_some (b_var (pv 1)))))) (b_var (pv 3))))) (v_bo (v_frz (v_sl rfl (b_var (pv 0)) (o_some (v_bo (v_frz (v_op o_add s_add (b_var (pv 1)) (v_bo (v_frz (v_callB call_len s_len rfl T.z_len PySem.boot_len (a_bo (b_var (pv 2)) (a_nil))))))))) (o_none)))))))
theorem fnQ_put {f : Addr} {fd : FuncData} (F : Fun κ.K "put" "put" s_put f fd) (T : Txt κ mg) : FnOk P w κ.K mg base (L2N.CX P w) 1 f fd ["word", "place", "old", "new"] (spV κ [true, true, true, true] g_put) := by
  have sc := sc_put
  refine F.okN sc (fun vs H Q E h => spV_len h) fun cdv A outer s H vs Q E hr h => ⟨tS κ (fun c d _ H' => E c d H') b_put, ?_, v_end (k := 0) rfl h⟩
  have tk : L2N.Takes (cxOf (L2N.CX P w) P w κ.K mg base ["word", "place", "old", "new"] "put" (defScope s_put) f cdv A outer s H E) (fun c d _ H' => E c d H') := L2N.takes_of rfl rfl rfl rfl
  have hp := passes_of (X := cxOf (L2N.CX P w) P w κ.K mg base ["word", "place", "old", "new"] "put" (defScope s_put) f cdv A outer s H E) rfl
  exact s_cons (s_if (PW.pt (w_or (t_cmp (o_ltA rfl hr.units) s_ltA (b_var (pv 1)) (v_bo (v_int)) (nomark _)) (w_or (t_cmp o_gt s_cm (b_var (pv 1)) (v_bo (v_frz (v_callB call_len s_len rfl T.z_len PySem.boot_len (a_bo (b_var (pv 0)) (a_nil))))) (nomark _)) (w_or1 (t_not (t_tru rfl (v_bo (v_frz (v_starts (v_bo (v_frz (v_sl rfl (b_var (pv 0)) (o_some (b_var (pv 1))) (o_none)))) (b_var (pv 2))))))))))) (s_one (s_raiseN_NoUse (c := 1) rfl rfl (congrFun T.xf 1) T.l_NoUse.choose_spec hr tk (v_bo (v_int)))) (s_nil)) (s_one (s_ret (v_op o_add s_add (v_bo (v_frz (v_op o_add s_add (v_bo (v_frz (v_sl rfl (b_var (pv 0)) (o_none) (o_some (b_var (pv 1)))))) (b_var (pv 3))))) (v_bo (v_frz (v_sl rfl (b_var (pv 0)) (o_some (v_bo (v_frz (v_op o_add s_add (b_var (pv 1)) (v_bo (v_frz (v_callB call_len s_len rfl T.z_len PySem.boot_len (a_bo (b_var (pv 2)) (a_nil))))))))) (o_none)))))))
theorem okQ_put (T : Txt κ mg) : VFnN P w κ mg base "put" 1 [true, true, true, true] g_put := by
  obtain ⟨f, fd, F, hm⟩ := T.d_put
  exact ⟨f, fd, ["word", "place", "old", "new"], hm, F.kp, fnQ_put F T, F.binds (ps := ["word", "place", "old", "new"]) fun _ _ _ _ _ _ us hl => match us, hl with | [_, _, _, _], _ => rfl⟩
theorem ok_put (T : Txt κ mg) : VFn P w κ mg base "put" 1 [true, true, true, true] g_put := by
  obtain ⟨f, fd, F, hm⟩ := T.d_put
  exact ⟨f, fd, ["word", "place", "old", "new"], hm, F.kp, fn_put F T, F.binds (ps := ["word", "place", "old", "new"]) fun _ _ _ _ _ _ us hl => match us, hl with | [_, _, _, _], _ => rfl⟩
abbrev s_used : Stmt := topS 7
theorem sc_used : FnScope ["pacts", "word", "step", "number", "place", "forth", "one", "other"] ["pacts", "word", "step"] (defScope s_used) := ⟨rfl, rfl, rfl, by decide +kernel, rfl, by decide +kernel, by decide +kernel⟩
theorem fn_used {f : Addr} {fd : FuncData} (F : Fun κ.K "used" "used" s_used f fd) (T : Txt κ mg) (K_put : VFn P w κ mg base "put" 1 [true, true, true, true] g_put) : FnOk P w κ.K mg base (L2.CX P w) 2 f fd ["pacts", "word", "step"] (spV κ [true, true, false] g_used) := by
  have sc := sc_used
  refine F.okX sc (fun vs H Q E h => spV_len h) fun cdv A outer s H vs Q E hr h => ⟨tS κ (fun c d _ H' => E c d H') b_used, ?_, v_end (k := 5) rfl h⟩
  have tk : Takes (cxOf (L2.CX P w) P w κ.K mg base ["pacts", "word", "step", "number", "place", "forth", "one", "other"] "used" (defScope s_used) f cdv A outer s H E) (fun c d _ H' => E c d H') := takes_of rfl rfl rfl rfl
  have hp := passes_of (X := cxOf (L2.CX P w) P w κ.K mg base ["pacts", "word", "step", "number", "place", "forth", "one", "other"] "used" (defScope s_used) f cdv A outer s H E) rfl
  exact s_cons (s_tg (pg_tup rfl (pgs_cons (pg_name (i := 3) sc.nd rfl (by first | exact Or.inl rfl | exact Or.inr rfl)) (pgs_cons (pg_name (i := 4) sc.nd rfl (by first | exact Or.inl rfl | exact Or.inr rfl)) (pgs_cons (pg_name (i := 5) sc.nd rfl (by first | exact Or.inl rfl | exact Or.inr rfl)) (pgs_nil))))) (tg_tup [3, 4, 5] rfl) (im (v_var (pv 2)))) (s_cons (s_if (t_not (t_chain (o_leA rfl hr.units) s_leA (o_ltA rfl hr.units) s_ltA (v_bo (v_int)) (b_var (pv 3)) (v_bo (v_frz (v_callB call_len s_len rfl T.z_len PySem.boot_len (a_bo (b_var (pv 0)) (a_nil))))))) (s_one (s_raise_NoUse (c := 1) rfl rfl (congrFun T.xf 1) T.l_NoUse.choose_spec hr tk (v_bo (v_int)))) (s_nil)) (s_cons (s_tg (pg_tup rfl (pgs_cons (pg_name (i := 6) sc.nd rfl (by first | exact Or.inl rfl | exact Or.inr rfl)) (pgs_cons (pg_name (i := 7) sc.nd rfl (by first | exact Or.inl rfl | exact Or.inr rfl)) (pgs_nil)))) (tg_tup [6, 7] rfl) (im (v_ix rfl (b_var (pv 0)) (b_var (pv 3)) (fun _ _ => rfl)))) (s_cons (s_if (t_tru rfl (b_var (pv 5))) (s_one (s_ret (v_call K_put rfl (hr.mono (by decide)) tk rfl (a_bo (b_var (pv 1)) (a_bo (b_var (pv 4)) (a_bo (b_var (pv 6)) (a_bo (b_var (pv 7)) (a_nil)))))))) (s_nil)) (s_one (s_ret (v_call K_put rfl (hr.mono (by decide)) tk rfl (a_bo (b_var (pv 1)) (a_bo (b_var (pv 4)) (a_bo (b_var (pv 7)) (a_bo (b_var (pv 6)) (a_nil)))))))))))
theorem fnQ_used {f : Addr} {fd : FuncData} (F : Fun κ.K "used" "used" s_used f fd) (T : Txt κ mg) (Q_put : VFnN P w κ mg base "put" 1 [true, true, true, true] g_put) : FnOk P w κ.K mg base (L2N.CX P w) 2 f fd ["pacts", "word", "step"] (spV κ [true, true, false] g_used) := by
  have sc := sc_used
  refine F.okN sc (fun vs H Q E h => spV_len h) fun cdv A outer s H vs Q E hr h => ⟨tS κ (fun c d _ H' => E c d H') b_used, ?_, v_end (k := 5) rfl h⟩
  have tk : L2N.Takes (cxOf (L2N.CX P w) P w κ.K mg base ["pacts", "word", "step", "number", "place", "forth", "one", "other"] "used" (defScope s_used) f cdv A outer s H E) (fun c d _ H' => E c d H') := L2N.takes_of rfl rfl rfl rfl
  have hp := passes_of (X := cxOf (L2N.CX P w) P w κ.K mg base ["pacts", "word", "step", "number", "place", "forth", "one", "other"] "used" (defScope s_used) f cdv A outer s H E) rfl
  exact s_cons (s_tg (pg_tup rfl (pgs_cons (pg_name (i := 3) sc.nd rfl (by first | exact Or.inl rfl | exact Or.inr rfl)) (pgs_cons (pg_name (i := 4) sc.nd rfl (by first | exact Or.inl rfl | exact Or.inr rfl)) (pgs_cons (pg_name (i := 5) sc.nd rfl (by first | exact Or.inl rfl | exact Or.inr rfl)) (pgs_nil))))) (tg_tup [3, 4, 5] rfl) (im (v_var (pv 2)))) (s_cons (s_if (t_not (t_chain (o_leA rfl hr.units) s_leA (o_ltA rfl hr.units) s_ltA (v_bo (v_int)) (b_var (pv 3)) (v_bo (v_frz (v_callB call_len s_len rfl T.z_len PySem.boot_len (a_bo (b_var (pv 0)) (a_nil))))))) (s_one (s_raiseN_NoUse (c := 1) rfl rfl (congrFun T.xf 1) T.l_NoUse.choose_spec hr tk (v_bo (v_int)))) (s_nil)) (s_cons (s_tg (pg_tup rfl (pgs_cons (pg_name (i := 6) sc.nd rfl (by first | exact Or.inl rfl | exact Or.inr rfl)) (pgs_cons (pg_name (i := 7) sc.nd rfl (by first | exact Or.inl rfl | exact Or.inr rfl)) (pgs_nil)))) (tg_tup [6, 7] rfl) (im (v_ix rfl (b_var (pv 0)) (b_var (pv 3)) (fun _ _ => rfl)))) (s_cons (s_if (t_tru rfl (b_var (pv 5))) (s_one (s_ret (v_callN Q_put rfl (hr.mono (by decide)) tk rfl (a_bo (b_var (pv 1)) (a_bo (b_var (pv 4)) (a_bo (b_var (pv 6)) (a_bo (b_var (pv 7)) (a_nil)))))))) (s_nil)) (s_one (s_ret (v_callN Q_put rfl (hr.mono (by decide)) tk rfl (a_bo (b_var (pv 1)) (a_bo (b_var (pv 4)) (a_bo (b_var (pv 7)) (a_bo (b_var (pv 6)) (a_nil)))))))))))
theorem okQ_used (T : Txt κ mg) (Q_put : VFnN P w κ mg base "put" 1 [true, true, true, true] g_put) : VFnN P w κ mg base "used" 2 [true, true, false] g_used := by
  obtain ⟨f, fd, F, hm⟩ := T.d_used
  exact ⟨f, fd, ["pacts", "word", "step"], hm, F.kp, fnQ_used F T Q_put, F.binds (ps := ["pacts", "word", "step"]) fun _ _ _ _ _ _ us hl => match us, hl with | [_, _, _], _ => rfl⟩
theorem ok_used (T : Txt κ mg) (K_put : VFn P w κ mg base "put" 1 [true, true, true, true] g_put) : VFn P w κ mg base "used" 2 [true, true, false] g_used := by
  obtain ⟨f, fd, F, hm⟩ := T.d_used
  exact ⟨f, fd, ["pacts", "word", "step"], hm, F.kp, fn_used F T K_put, F.binds (ps := ["pacts", "word", "step"]) fun _ _ _ _ _ _ us hl => match us, hl with | [_, _, _], _ => rfl⟩
abbrev s_walked : Stmt := topS 8
theorem sc_walked : FnScope ["pacts", "word", "steps", "found", "at", "step"] ["pacts", "word", "steps"] (defScope s_walked) := ⟨rfl, rfl, rfl, by decide +kernel, rfl, by decide +kernel, by decide +kernel⟩
theorem fn_walked {f : Addr} {fd : FuncData} (F : Fun κ.K "walked" "walked" s_walked f fd) (T : Txt κ mg) (Q_used : VFnN P w κ mg base "used" 2 [true, true, false] g_used) : FnOk P w κ.K mg base (L2.CX P w) 3 f fd ["pacts", "word", "steps"] (spV κ [true, false, true] g_walked) := by
  have sc := sc_walked
  refine F.okX sc (fun vs H Q E h => spV_len h) fun cdv A outer s H vs Q E hr h => ⟨tS κ (fun c d _ H' => E c d H') b_walked, ?_, v_end (k := 3) rfl h⟩
  have tk : Takes (cxOf (L2.CX P w) P w κ.K mg base ["pacts", "word", "steps", "found", "at", "step"] "walked" (defScope s_walked) f cdv A outer s H E) (fun c d _ H' => E c d H') := takes_of rfl rfl rfl rfl
  have hp := passes_of (X := cxOf (L2.CX P w) P w κ.K mg base ["pacts", "word", "steps", "found", "at", "step"] "walked" (defScope s_walked) f cdv A outer s H E) rfl
  exact s_cons (s_asg (i := 3) sc.nd rfl (by first | exact Or.inl rfl | exact Or.inr rfl) (v_lst (ms := [false]) rfl (a_sh (v_var (pv 1)) (a_nil)))) (s_cons (s_lock (i := 2) (s_for hp rfl (i_enum rfl T.z_enumerate (l_name (pv 2))) (pg_tup rfl (pgs_cons (pg_name (i := 4) sc.nd rfl (by first | exact Or.inl rfl | exact Or.inr rfl)) (pgs_cons (pg_name (i := 5) sc.nd rfl (by first | exact Or.inl rfl | exact Or.inr rfl)) (pgs_nil)))) (tg_tup [4, 5] rfl) (s_cons (s_tryR (h := 1) (xs := xs) (mb := y1_walked) (m0 := z1_walked) rfl rfl rfl ⟨rfl, by decide, Or.inl T.g_NoUse⟩ T.x_NoUse (fun hd => L2H.passesAt_of rfl hd) tk (fun W pn xe tk hp => s_one (s_asg (i := 1) sc.nd rfl (by first | exact Or.inl rfl | exact Or.inr rfl) (v_callN Q_used rfl (hr.mono (by decide)) tk rfl (a_bo (b_var (pv 0)) (a_bo (b_var (pv 1)) (a_sh (v_var (pv 5)) (a_nil))))))) (fun a oe pn tk hot => s_one (s_raiseH_NoUse (c := 1) hot rfl (congrFun T.xf 1) T.l_NoUse.choose_spec (have q := dp2 hr; q) tk (b_var (pv 4))))) (s_one (s_app (i := 3) rfl (pv 3) (v_var (pv 1))))))) (s_one (s_retV (pv 3))))
theorem ok_walked (T : Txt κ mg) (Q_used : VFnN P w κ mg base "used" 2 [true, true, false] g_used) : VFn P w κ mg base "walked" 3 [true, false, true] g_walked := by
  obtain ⟨f, fd, F, hm⟩ := T.d_walked
  exact ⟨f, fd, ["pacts", "word", "steps"], hm, F.kp, fn_walked F T Q_used, F.binds (ps := ["pacts", "word", "steps"]) fun _ _ _ _ _ _ us hl => match us, hl with | [_, _, _], _ => rfl⟩
abbrev s_Chain_init : Stmt := inClass (topS 9) 0
theorem sc_Chain_init : FnScope ["self", "pacts", "word", "steps"] ["self", "pacts", "word", "steps"] (defScope s_Chain_init) := ⟨rfl, rfl, rfl, by decide +kernel, rfl, by decide +kernel, by decide +kernel⟩
theorem fn_Chain_init {f : Addr} {fd : FuncData} (F : Fun κ.K "__init__" "Chain.__init__" s_Chain_init f fd) (T : Txt κ mg) (K_walked : VFn P w κ mg base "walked" 3 [true, false, true] g_walked) : FnOk P w κ.K mg base (L2.CX P w) 4 f fd ["self", "pacts", "word", "steps"] (spI κ 0 [true, false, true] g_Chain_init) := by
  have sc := sc_Chain_init
  refine F.okX sc (fun vs H Q E h => spI_len h) fun cdv A outer s H vs Q E hr h => ⟨tS κ (fun c d _ H' => E c d H') b_Chain_init, ?_, v_endI (k := 0) rfl h⟩
  have tk : Takes (cxOf (L2.CX P w) P w κ.K mg base ["self", "pacts", "word", "steps"] "Chain.__init__" (defScope s_Chain_init) f cdv A outer s H E) (fun c d _ H' => E c d H') := takes_of rfl rfl rfl rfl
  have hp := passes_of (X := cxOf (L2.CX P w) P w κ.K mg base ["self", "pacts", "word", "steps"] "Chain.__init__" (defScope s_Chain_init) f cdv A outer s H E) rfl
  exact s_cons (s_fld (i := 0) T.fld_pacts rfl (pv 0) (i_sh (im (v_frz (v_callTy call_list_of s_list rfl T.z_list (by decide +kernel) (a_bo (b_var (pv 1)) (a_nil))))))) (s_cons (s_fld (i := 0) T.fld_steps rfl (pv 0) (i_sh (im (v_frz (v_callTy call_list_of s_list rfl T.z_list (by decide +kernel) (a_bo (b_var (pv 3)) (a_nil))))))) (s_one (s_fld (i := 0) T.fld_words rfl (pv 0) (i_sh (im (v_frz (v_call K_walked rfl (hr.mono (by decide)) tk rfl (a_bo (v_fB (i := 0) T.fld_pacts rfl (pv 0)) (a_sh (v_var (pv 2)) (a_bo (v_fB (i := 0) T.fld_steps rfl (pv 0)) (a_nil)))))))))))
theorem okN_Chain (T : Txt κ mg) (K_walked : VFn P w κ mg base "walked" 3 [true, false, true] g_walked) : VMk P w κ mg base "Chain" 0 4 [true, false, true] g_Chain_init := by
  obtain ⟨f, fd, hm, M, F⟩ := T.mk_Chain
  exact ⟨f, fd, ["self", "pacts", "word", "steps"], hm, M, fn_Chain_init F T K_walked, F.binds (ps := ["self", "pacts", "word", "steps"]) fun _ _ _ _ _ _ us hl => match us, hl with | [_, _, _, _], _ => rfl⟩
abbrev s_Chain_first : Stmt := inClass (topS 9) 1
theorem sc_Chain_first : FnScope ["self"] ["self"] (defScope s_Chain_first) := ⟨rfl, rfl, rfl, by decide +kernel, rfl, by decide +kernel, by decide +kernel⟩
theorem fn_Chain_first {f : Addr} {fd : FuncData} (F : Fun κ.K "first" "Chain.first" s_Chain_first f fd) (T : Txt κ mg) : FnOk P w κ.K mg base (L2.CX P w) 1 f fd ["self"] (spV κ [false] g_Chain_first) := by
  have sc := sc_Chain_first
  refine F.okX sc (fun vs H Q E h => spV_len h) fun cdv A outer s H vs Q E hr h => ⟨tS κ (fun c d _ H' => E c d H') b_Chain_first, ?_, v_end (k := 0) rfl h⟩
  have tk : Takes (cxOf (L2.CX P w) P w κ.K mg base ["self"] "Chain.first" (defScope s_Chain_first) f cdv A outer s H E) (fun c d _ H' => E c d H') := takes_of rfl rfl rfl rfl
  have hp := passes_of (X := cxOf (L2.CX P w) P w κ.K mg base ["self"] "Chain.first" (defScope s_Chain_first) f cdv A outer s H E) rfl
  exact s_one (s_ret (v_sh (v_ix rfl (v_bo (v_fld T.fld_words rfl (v_var (pv 0)))) (v_bo (v_int)) (fun _ _ => rfl))))
theorem okM_first (T : Txt κ mg) : VMs P w κ mg base "first" 1 [] gs_first := fun c g e => match c, e with
  | 0, e => by
    cases e
    obtain ⟨f, fd, F, h1, h2, h3⟩ := T.m_0_first
    exact ⟨1, by decide, f, fd, ["self"], h1, h2, h3, fn_Chain_first F T, F.binds (ps := ["self"]) fun _ _ _ _ _ _ us hl => match us, hl with | [_], _ => rfl⟩
  | n + 1, e => by
    have e : (none : Option FSem) = some g := e
    cases e
abbrev s_Chain_straight : Stmt := inClass (topS 9) 8
theorem sc_Chain_straight : FnScope ["self", "last_at", "kept", "at", "word"] ["self"] (defScope s_Chain_straight) := ⟨rfl, rfl, rfl, by decide +kernel, rfl, by decide +kernel, by decide +kernel⟩
theorem fn_Chain_straight {f : Addr} {fd : FuncData} (F : Fun κ.K "straight" "Chain.straight" s_Chain_straight f fd) (T : Txt κ mg) (M_first : VMs P w κ mg base "first" 1 [] gs_first) (N_Chain : VMk P w κ mg base "Chain" 0 4 [true, false, true] g_Chain_init) : FnOk P w κ.K mg base (L2.CX P w) 6 f fd ["self"] (spV κ [false] g_Chain_straight) := by
  have sc := sc_Chain_straight
  refine F.okX sc (fun vs H Q E h => spV_len h) fun cdv A outer s H vs Q E hr h => ⟨tS κ (fun c d _ H' => E c d H') b_Chain_straight, ?_, v_end (k := 4) rfl h⟩
  have tk : Takes (cxOf (L2.CX P w) P w κ.K mg base ["self", "last_at", "kept", "at", "word"] "Chain.straight" (defScope s_Chain_straight) f cdv A outer s H E) (fun c d _ H' => E c d H') := takes_of rfl rfl rfl rfl
  have hp := passes_of (X := cxOf (L2.CX P w) P w κ.K mg base ["self", "last_at", "kept", "at", "word"] "Chain.straight" (defScope s_Chain_straight) f cdv A outer s H E) rfl
  exact s_cons (s_asg (i := 1) sc.nd rfl (by first | exact Or.inl rfl | exact Or.inr rfl) (v_dnew)) (s_cons (s_for hp rfl (i_enum rfl T.z_enumerate (l_of (v_fld T.fld_words rfl (v_var (pv 0))))) (pg_tup rfl (pgs_cons (pg_name (i := 3) sc.nd rfl (by first | exact Or.inl rfl | exact Or.inr rfl)) (pgs_cons (pg_name (i := 4) sc.nd rfl (by first | exact Or.inl rfl | exact Or.inr rfl)) (pgs_nil)))) (tg_tup [3, 4] rfl) (s_one (s_dput (i := 1) (hu_of hr) (pv 1) (b_var (pv 4)) (v_var (pv 3))))) (s_cons (s_asg (i := 2) sc.nd rfl (by first | exact Or.inl rfl | exact Or.inr rfl) (v_lst (ms := []) rfl (a_nil))) (s_cons (s_asg (i := 3) sc.nd rfl (by first | exact Or.inl rfl | exact Or.inr rfl) (v_sh (v_dget (i := 1) (hu_of hr) (pv 1) (v_bo (v_frz (v_meth0 M_first rfl (hr.mono (by decide)) tk (v_var (pv 0)))))))) (s_cons (s_while fuel hp (t_cmp (o_ltA rfl hr.units) s_ltA (b_var (pv 3)) (v_bo (v_frz (v_callB call_len s_len rfl T.z_len PySem.boot_len (a_bo (v_bo (v_fld T.fld_steps rfl (v_var (pv 0)))) (a_nil))))) (nomark _)) (s_cons (s_app (i := 2) rfl (pv 2) (v_ix rfl (v_bo (v_fld T.fld_steps rfl (v_var (pv 0)))) (b_var (pv 3)) (fun _ _ => rfl))) (s_one (s_asg (i := 3) sc.nd rfl (by first | exact Or.inl rfl | exact Or.inr rfl) (v_sh (v_dget (i := 1) (hu_of hr) (pv 1) (v_bo (v_ix rfl (v_bo (v_fld T.fld_words rfl (v_var (pv 0)))) (v_bo (v_frz (v_op o_add s_add (b_var (pv 3)) (v_bo (v_int))))) (fun _ _ => rfl))))))))) (s_one (s_ret (v_sh (v_frz (v_make (ms := [true, false, true]) N_Chain rfl (hr.mono (by decide)) tk rfl (a_bo (v_bo (v_fld T.fld_pacts rfl (v_var (pv 0)))) (a_sh (v_frz (v_meth0 M_first rfl (hr.mono (by decide)) tk (v_var (pv 0)))) (a_bo (b_var (pv 2)) (a_nil)))))))))))))
theorem okM_straight (T : Txt κ mg) (M_first : VMs P w κ mg base "first" 1 [] gs_first) (N_Chain : VMk P w κ mg base "Chain" 0 4 [true, false, true] g_Chain_init) : VMs P w κ mg base "straight" 6 [] gs_straight := fun c g e => match c, e with
  | 0, e => by
    cases e
    obtain ⟨f, fd, F, h1, h2, h3⟩ := T.m_0_straight
    exact ⟨6, by decide, f, fd, ["self"], h1, h2, h3, fn_Chain_straight F T M_first N_Chain, F.binds (ps := ["self"]) fun _ _ _ _ _ _ us hl => match us, hl with | [_], _ => rfl⟩
  | n + 1, e => by
    have e : (none : Option FSem) = some g := e
    cases e
abbrev s_Chain_steps_told : Stmt := inClass (topS 9) 4
theorem sc_Chain_steps_told : FnScope ["self"] ["self"] (defScope s_Chain_steps_told) := ⟨rfl, rfl, rfl, by decide +kernel, rfl, by decide +kernel, by decide +kernel⟩
theorem fn_Chain_steps_told {f : Addr} {fd : FuncData} (F : Fun κ.K "steps_told" "Chain.steps_told" s_Chain_steps_told f fd) (T : Txt κ mg) : FnOk P w κ.K mg base (L2.CX P w) 1 f fd ["self"] (spV κ [false] g_Chain_steps_told) := by
  have sc := sc_Chain_steps_told
  refine F.okX sc (fun vs H Q E h => spV_len h) fun cdv A outer s H vs Q E hr h => ⟨tS κ (fun c d _ H' => E c d H') b_Chain_steps_told, ?_, v_end (k := 0) rfl h⟩
  have tk : Takes (cxOf (L2.CX P w) P w κ.K mg base ["self"] "Chain.steps_told" (defScope s_Chain_steps_told) f cdv A outer s H E) (fun c d _ H' => E c d H') := takes_of rfl rfl rfl rfl
  have hp := passes_of (X := cxOf (L2.CX P w) P w κ.K mg base ["self"] "Chain.steps_told" (defScope s_Chain_steps_told) f cdv A outer s H E) rfl
  exact s_one (s_ret (v_callTy call_list_of s_list rfl T.z_list (by decide +kernel) (a_bo (v_bo (v_fld T.fld_steps rfl (v_var (pv 0)))) (a_nil))))
theorem okM_steps_told (T : Txt κ mg) : VMs P w κ mg base "steps_told" 1 [] gs_steps_told := fun c g e => match c, e with
  | 0, e => by
    cases e
    obtain ⟨f, fd, F, h1, h2, h3⟩ := T.m_0_steps_told
    exact ⟨1, by decide, f, fd, ["self"], h1, h2, h3, fn_Chain_steps_told F T, F.binds (ps := ["self"]) fun _ _ _ _ _ _ us hl => match us, hl with | [_], _ => rfl⟩
  | n + 1, e => by
    have e : (none : Option FSem) = some g := e
    cases e
abbrev s_law_cell_at : Stmt := topS 11
theorem sc_law_cell_at : FnScope ["_law_script", "_law_k"] ["_law_script", "_law_k"] (defScope s_law_cell_at) := ⟨rfl, rfl, rfl, by decide +kernel, rfl, by decide +kernel, by decide +kernel⟩
theorem fn_law_cell_at {f : Addr} {fd : FuncData} (F : Fun κ.K "_law_cell_at" "_law_cell_at" s_law_cell_at f fd) (T : Txt κ mg) : FnOk P w κ.K mg base (L2.CX P w) 1 f fd ["_law_script", "_law_k"] (spV κ [true, true] g_law_cell_at) := by
  have sc := sc_law_cell_at
  refine F.okX sc (fun vs H Q E h => spV_len h) fun cdv A outer s H vs Q E hr h => ⟨tS κ (fun c d _ H' => E c d H') b_law_cell_at, ?_, v_end (k := 0) rfl h⟩
  have tk : Takes (cxOf (L2.CX P w) P w κ.K mg base ["_law_script", "_law_k"] "_law_cell_at" (defScope s_law_cell_at) f cdv A outer s H E) (fun c d _ H' => E c d H') := takes_of rfl rfl rfl rfl
  have hp := passes_of (X := cxOf (L2.CX P w) P w κ.K mg base ["_law_script", "_law_k"] "_law_cell_at" (defScope s_law_cell_at) f cdv A outer s H E) rfl
  exact s_cons (s_if (t_cmp (o_ltA rfl hr.units) s_ltA (b_var (pv 1)) (v_bo (v_frz (v_callB call_len s_len rfl T.z_len PySem.boot_len (a_bo (b_var (pv 0)) (a_nil))))) (nomark _)) (s_one (s_ret (v_sh (v_ix rfl (b_var (pv 0)) (b_var (pv 1)) (fun _ _ => rfl))))) (s_nil)) (s_one (s_ret (v_sh (v_int))))
theorem ok_law_cell_at (T : Txt κ mg) : VFn P w κ mg base "_law_cell_at" 1 [true, true] g_law_cell_at := by
  obtain ⟨f, fd, F, hm⟩ := T.d_law_cell_at
  exact ⟨f, fd, ["_law_script", "_law_k"], hm, F.kp, fn_law_cell_at F T, F.binds (ps := ["_law_script", "_law_k"]) fun _ _ _ _ _ _ us hl => match us, hl with | [_, _], _ => rfl⟩
abbrev s_law_word : Stmt := topS 14
theorem sc_law_word : FnScope ["_law_cell", "_law_letters_here", "_law_most", "_law_size", "_law_number", "_law_word_here", "_law_k"] ["_law_cell", "_law_letters_here", "_law_most"] (defScope s_law_word) := ⟨rfl, rfl, rfl, by decide +kernel, rfl, by decide +kernel, by decide +kernel⟩
theorem fn_law_word {f : Addr} {fd : FuncData} (F : Fun κ.K "_law_word" "_law_word" s_law_word f fd) (T : Txt κ mg) : FnOk P w κ.K mg base (L2.CX P w) 1 f fd ["_law_cell", "_law_letters_here", "_law_most"] (spV κ [true, true, true] g_law_word) := by
  have sc := sc_law_word
  refine F.okX sc (fun vs H Q E h => spV_len h) fun cdv A outer s H vs Q E hr h => ⟨tS κ (fun c d _ H' => E c d H') b_law_word, ?_, v_end (k := 4) rfl h⟩
  have tk : Takes (cxOf (L2.CX P w) P w κ.K mg base ["_law_cell", "_law_letters_here", "_law_most", "_law_size", "_law_number", "_law_word_here", "_law_k"] "_law_word" (defScope s_law_word) f cdv A outer s H E) (fun c d _ H' => E c d H') := takes_of rfl rfl rfl rfl
  have hp := passes_of (X := cxOf (L2.CX P w) P w κ.K mg base ["_law_cell", "_law_letters_here", "_law_most", "_law_size", "_law_number", "_law_word_here", "_law_k"] "_law_word" (defScope s_law_word) f cdv A outer s H E) rfl
  exact s_cons (s_asg (i := 3) sc.nd rfl (by first | exact Or.inl rfl | exact Or.inr rfl) (v_op op_mod s_mod (b_var (pv 0)) (v_bo (v_frz (v_op o_add s_add (b_var (pv 2)) (v_bo (v_int))))))) (s_cons (s_asg (i := 4) sc.nd rfl (by first | exact Or.inl rfl | exact Or.inr rfl) (v_op op_mod s_mod (v_bo (v_frz (v_op op_fdivW s_div (b_var (pv 0)) (v_bo (v_frz (v_op o_add s_add (b_var (pv 2)) (v_bo (v_int)))))))) (v_bo (v_int)))) (s_cons (s_asg (i := 5) sc.nd rfl (by first | exact Or.inl rfl | exact Or.inr rfl) (v_sh (v_str (by rfl)))) (s_cons (s_for hp rfl (i_rg1 rfl rfl T.z_range (a_bo (b_var (pv 3)) (a_nil))) (pg_name (i := 6) sc.nd rfl (by first | exact Or.inl rfl | exact Or.inr rfl)) (tg_name 6) (s_cons (s_asg (i := 4) sc.nd rfl (by first | exact Or.inl rfl | exact Or.inr rfl) (v_op op_mod s_mod (v_bo (v_frz (v_op o_add s_add (v_bo (v_frz (v_op o_mul s_mul (b_var (pv 4)) (v_bo (v_int))))) (v_bo (v_int))))) (v_bo (v_int)))) (s_one (s_asg (i := 5) sc.nd rfl (by first | exact Or.inl rfl | exact Or.inr rfl) (v_op o_add s_add (b_var (pv 5)) (v_bo (v_ix rfl (b_var (pv 1)) (v_bo (v_frz (v_op op_mod s_mod (v_bo (v_frz (v_op op_fdivW s_div (b_var (pv 4)) (v_bo (v_int))))) (v_bo (v_frz (v_callB call_len s_len rfl T.z_len PySem.boot_len (a_bo (b_var (pv 1)) (a_nil)))))))) (fun _ _ => rfl)))))))) (s_one (s_retV (pv 5))))))
theorem ok_law_word (T : Txt κ mg) : VFn P w κ mg base "_law_word" 1 [true, true, true] g_law_word := by
  obtain ⟨f, fd, F, hm⟩ := T.d_law_word
  exact ⟨f, fd, ["_law_cell", "_law_letters_here", "_law_most"], hm, F.kp, fn_law_word F T, F.binds (ps := ["_law_cell", "_law_letters_here", "_law_most"]) fun _ _ _ _ _ _ us hl => match us, hl with | [_, _, _], _ => rfl⟩
abbrev s_law_pact : Stmt := topS 15
theorem sc_law_pact : FnScope ["_law_cell", "_law_letters_here", "_law_most"] ["_law_cell", "_law_letters_here", "_law_most"] (defScope s_law_pact) := ⟨rfl, rfl, rfl, by decide +kernel, rfl, by decide +kernel, by decide +kernel⟩
theorem fn_law_pact {f : Addr} {fd : FuncData} (F : Fun κ.K "_law_pact" "_law_pact" s_law_pact f fd) (T : Txt κ mg) (K_law_word : VFn P w κ mg base "_law_word" 1 [true, true, true] g_law_word) : FnOk P w κ.K mg base (L2.CX P w) 2 f fd ["_law_cell", "_law_letters_here", "_law_most"] (spV κ [true, true, true] g_law_pact) := by
  have sc := sc_law_pact
  refine F.okX sc (fun vs H Q E h => spV_len h) fun cdv A outer s H vs Q E hr h => ⟨tS κ (fun c d _ H' => E c d H') b_law_pact, ?_, v_end (k := 0) rfl h⟩
  have tk : Takes (cxOf (L2.CX P w) P w κ.K mg base ["_law_cell", "_law_letters_here", "_law_most"] "_law_pact" (defScope s_law_pact) f cdv A outer s H E) (fun c d _ H' => E c d H') := takes_of rfl rfl rfl rfl
  have hp := passes_of (X := cxOf (L2.CX P w) P w κ.K mg base ["_law_cell", "_law_letters_here", "_law_most"] "_law_pact" (defScope s_law_pact) f cdv A outer s H E) rfl
  exact s_one (s_ret (v_sh (v_tup (ms := [false, false]) rfl (a_sh (v_frz (v_call K_law_word rfl (hr.mono (by decide)) tk rfl (a_bo (b_var (pv 0)) (a_bo (b_var (pv 1)) (a_bo (b_var (pv 2)) (a_nil)))))) (a_sh (v_frz (v_call K_law_word rfl (hr.mono (by decide)) tk rfl (a_bo (v_bo (v_frz (v_op op_mod s_mod (v_bo (v_frz (v_op o_mul s_mul (b_var (pv 0)) (v_bo (v_int))))) (v_bo (v_int))))) (a_bo (b_var (pv 1)) (a_bo (b_var (pv 2)) (a_nil)))))) (a_nil))))))
theorem ok_law_pact (T : Txt κ mg) (K_law_word : VFn P w κ mg base "_law_word" 1 [true, true, true] g_law_word) : VFn P w κ mg base "_law_pact" 2 [true, true, true] g_law_pact := by
  obtain ⟨f, fd, F, hm⟩ := T.d_law_pact
  exact ⟨f, fd, ["_law_cell", "_law_letters_here", "_law_most"], hm, F.kp, fn_law_pact F T K_law_word, F.binds (ps := ["_law_cell", "_law_letters_here", "_law_most"]) fun _ _ _ _ _ _ us hl => match us, hl with | [_, _, _], _ => rfl⟩
abbrev s_law_whole : Stmt := topS 12
theorem sc_law_whole : FnScope ["_law_found"] ["_law_found"] (defScope s_law_whole) := ⟨rfl, rfl, rfl, by decide +kernel, rfl, by decide +kernel, by decide +kernel⟩
theorem fn_law_whole {f : Addr} {fd : FuncData} (F : Fun κ.K "_law_whole" "_law_whole" s_law_whole f fd) (T : Txt κ mg) : FnOk P w κ.K mg base (L2.CX P w) 1 f fd ["_law_found"] (spV κ [true] g_law_whole) := by
  have sc := sc_law_whole
  refine F.okX sc (fun vs H Q E h => spV_len h) fun cdv A outer s H vs Q E hr h => ⟨tS κ (fun c d _ H' => E c d H') b_law_whole, ?_, v_end (k := 0) rfl h⟩
  have tk : Takes (cxOf (L2.CX P w) P w κ.K mg base ["_law_found"] "_law_whole" (defScope s_law_whole) f cdv A outer s H E) (fun c d _ H' => E c d H') := takes_of rfl rfl rfl rfl
  have hp := passes_of (X := cxOf (L2.CX P w) P w κ.K mg base ["_law_found"] "_law_whole" (defScope s_law_whole) f cdv A outer s H E) rfl
  exact s_one (s_ret (v_sh (v_and (v_isi .int rfl rfl T.z_isinstance (pe_bltn (v := .ty "int") rfl T.z_int (by decide +kernel) rfl) (b_var (pv 0))) (v_one (v_not (v_isi .bool rfl rfl T.z_isinstance (pe_bltn (v := .ty "bool") rfl T.z_bool (by decide +kernel) rfl) (b_var (pv 0))))))))
theorem ok_law_whole (T : Txt κ mg) : VFn P w κ mg base "_law_whole" 1 [true] g_law_whole := by
  obtain ⟨f, fd, F, hm⟩ := T.d_law_whole
  exact ⟨f, fd, ["_law_found"], hm, F.kp, fn_law_whole F T, F.binds (ps := ["_law_found"]) fun _ _ _ _ _ _ us hl => match us, hl with | [_], _ => rfl⟩
abbrev s_law_steps_are : Stmt := topS 19
theorem sc_law_steps_are : FnScope ["_law_found", "_law_due_here", "_law_step", "_law_right"] ["_law_found", "_law_due_here"] (defScope s_law_steps_are) := ⟨rfl, rfl, rfl, by decide +kernel, rfl, by decide +kernel, by decide +kernel⟩
theorem fn_law_steps_are {f : Addr} {fd : FuncData} (F : Fun κ.K "_law_steps_are" "_law_steps_are" s_law_steps_are f fd) (T : Txt κ mg) (K_law_whole : VFn P w κ mg base "_law_whole" 1 [true] g_law_whole) : FnOk P w κ.K mg base (L2.CX P w) 2 f fd ["_law_found", "_law_due_here"] (spV κ [true, true] g_law_steps_are) := by
  have sc := sc_law_steps_are
  refine F.okX sc (fun vs H Q E h => spV_len h) fun cdv A outer s H vs Q E hr h => ⟨tS κ (fun c d _ H' => E c d H') b_law_steps_are, ?_, v_end (k := 2) rfl h⟩
  have tk : Takes (cxOf (L2.CX P w) P w κ.K mg base ["_law_found", "_law_due_here", "_law_step", "_law_right"] "_law_steps_are" (defScope s_law_steps_are) f cdv A outer s H E) (fun c d _ H' => E c d H') := takes_of rfl rfl rfl rfl
  have hp := passes_of (X := cxOf (L2.CX P w) P w κ.K mg base ["_law_found", "_law_due_here", "_law_step", "_law_right"] "_law_steps_are" (defScope s_law_steps_are) f cdv A outer s H E) rfl
  exact s_cons (s_if (PW.pt (w_or (t_not (t_tru rfl (v_bo (v_isi .list rfl rfl T.z_isinstance (pe_bltn (v := .ty "list") rfl T.z_list (by decide +kernel) rfl) (b_var (pv 0)))))) (w_or1 (t_cmp (o_ne rfl hr.units) s_ne (v_bo (v_frz (v_callB call_len s_len rfl T.z_len PySem.boot_len (a_bo (b_var (pv 0)) (a_nil))))) (v_bo (v_frz (v_callB call_len s_len rfl T.z_len PySem.boot_len (a_bo (b_var (pv 1)) (a_nil))))) (nomark _))))) (s_one (s_ret (v_sh (v_bl)))) (s_nil)) (s_cons (s_lock (i := 1) (s_lock (i := 0) (s_for hp rfl (i_zip rfl rfl T.z_zip (l_name (pv 0)) (l_name (pv 1))) (pg_tup rfl (pgs_cons (pg_name (i := 2) sc.nd rfl (by first | exact Or.inl rfl | exact Or.inr rfl)) (pgs_cons (pg_name (i := 3) sc.nd rfl (by first | exact Or.inl rfl | exact Or.inr rfl)) (pgs_nil)))) (tg_tup [2, 3] rfl) (s_cons (s_if (PW.pt (w_or (t_not (t_tru rfl (v_bo (v_isi .tuple rfl rfl T.z_isinstance (pe_bltn (v := .ty "tuple") rfl T.z_tuple (by decide +kernel) rfl) (b_var (pv 2)))))) (w_or1 (t_cmp (o_ne rfl hr.units) s_ne (b_var (pv 2)) (b_var (pv 3)) (nomark _))))) (s_one (s_ret (v_sh (v_bl)))) (s_nil)) (s_one (s_if (PW.pt (w_or (t_not (t_tru rfl (v_bo (v_frz (v_call K_law_whole rfl (hr.mono (by decide)) tk rfl (a_bo (v_bo (v_ix rfl (b_var (pv 2)) (v_bo (v_int)) (fun _ _ => rfl))) (a_nil))))))) (w_or (t_not (t_tru rfl (v_bo (v_frz (v_call K_law_whole rfl (hr.mono (by decide)) tk rfl (a_bo (v_bo (v_ix rfl (b_var (pv 2)) (v_bo (v_int)) (fun _ _ => rfl))) (a_nil))))))) (w_or1 (t_not (t_tru rfl (v_bo (v_isi .bool rfl rfl T.z_isinstance (pe_bltn (v := .ty "bool") rfl T.z_bool (by decide +kernel) rfl) (v_bo (v_ix rfl (b_var (pv 2)) (v_bo (v_int)) (fun _ _ => rfl))))))))))) (s_one (s_ret (v_sh (v_bl)))) (s_nil))))))) (s_one (s_ret (v_sh (v_bl)))))
theorem ok_law_steps_are (T : Txt κ mg) (K_law_whole : VFn P w κ mg base "_law_whole" 1 [true] g_law_whole) : VFn P w κ mg base "_law_steps_are" 2 [true, true] g_law_steps_are := by
  obtain ⟨f, fd, F, hm⟩ := T.d_law_steps_are
  exact ⟨f, fd, ["_law_found", "_law_due_here"], hm, F.kp, fn_law_steps_are F T K_law_whole, F.binds (ps := ["_law_found", "_law_due_here"]) fun _ _ _ _ _ _ us hl => match us, hl with | [_, _], _ => rfl⟩
abbrev s_law_due : Stmt := topS 20
theorem sc_law_due : FnScope ["_law_steps", "_law_words", "_law_kept", "_law_at", "_law_last", "_law_k"] ["_law_steps", "_law_words"] (defScope s_law_due) := ⟨rfl, rfl, rfl, by decide +kernel, rfl, by decide +kernel, by decide +kernel⟩
theorem fn_law_due {f : Addr} {fd : FuncData} (F : Fun κ.K "_law_due" "_law_due" s_law_due f fd) (T : Txt κ mg) : FnOk P w κ.K mg base (L2.CX P w) 1 f fd ["_law_steps", "_law_words"] (spV κ [true, true] g_law_due) := by
  have sc := sc_law_due
  refine F.okX sc (fun vs H Q E h => spV_len h) fun cdv A outer s H vs Q E hr h => ⟨tS κ (fun c d _ H' => E c d H') b_law_due, ?_, v_end (k := 4) rfl h⟩
  have tk : Takes (cxOf (L2.CX P w) P w κ.K mg base ["_law_steps", "_law_words", "_law_kept", "_law_at", "_law_last", "_law_k"] "_law_due" (defScope s_law_due) f cdv A outer s H E) (fun c d _ H' => E c d H') := takes_of rfl rfl rfl rfl
  have hp := passes_of (X := cxOf (L2.CX P w) P w κ.K mg base ["_law_steps", "_law_words", "_law_kept", "_law_at", "_law_last", "_law_k"] "_law_due" (defScope s_law_due) f cdv A outer s H E) rfl
  exact s_cons (s_asg (i := 2) sc.nd rfl (by first | exact Or.inl rfl | exact Or.inr rfl) (v_lst (ms := []) rfl (a_nil))) (s_cons (s_asg (i := 3) sc.nd rfl (by first | exact Or.inl rfl | exact Or.inr rfl) (v_sh (v_int))) (s_cons (s_while fuel hp (t_cmp (o_ne rfl hr.units) s_ne (v_bo (v_ix rfl (b_var (pv 1)) (b_var (pv 3)) (fun _ _ => rfl))) (v_bo (v_ix rfl (b_var (pv 1)) (v_bo (v_neg (v_int))) (fun _ _ => rfl))) (nomark _)) (s_cons (s_asg (i := 4) sc.nd rfl (by first | exact Or.inl rfl | exact Or.inr rfl) (v_sh (v_var (pv 3)))) (s_cons (s_for hp rfl (i_rg2 rfl rfl T.z_range (a_bo (b_var (pv 3)) (a_bo (v_bo (v_frz (v_callB call_len s_len rfl T.z_len PySem.boot_len (a_bo (b_var (pv 1)) (a_nil))))) (a_nil)))) (pg_name (i := 5) sc.nd rfl (by first | exact Or.inl rfl | exact Or.inr rfl)) (tg_name 5) (s_one (s_if (t_cmp (o_eq rfl hr.units) s_eq (v_bo (v_ix rfl (b_var (pv 1)) (b_var (pv 5)) (fun _ _ => rfl))) (v_bo (v_ix rfl (b_var (pv 1)) (b_var (pv 3)) (fun _ _ => rfl))) (nomark _)) (s_one (s_asg (i := 4) sc.nd rfl (by first | exact Or.inl rfl | exact Or.inr rfl) (v_sh (v_var (pv 5))))) (s_nil)))) (s_cons (s_app (i := 2) rfl (pv 2) (v_ix rfl (b_var (pv 0)) (b_var (pv 4)) (fun _ _ => rfl))) (s_one (s_asg (i := 3) sc.nd rfl (by first | exact Or.inl rfl | exact Or.inr rfl) (v_op o_add s_add (b_var (pv 4)) (v_bo (v_int))))))))) (s_one (s_retV (pv 2)))))
theorem ok_law_due (T : Txt κ mg) : VFn P w κ mg base "_law_due" 1 [true, true] g_law_due := by
  obtain ⟨f, fd, F, hm⟩ := T.d_law_due
  exact ⟨f, fd, ["_law_steps", "_law_words"], hm, F.kp, fn_law_due F T, F.binds (ps := ["_law_steps", "_law_words"]) fun _ _ _ _ _ _ us hl => match us, hl with | [_, _], _ => rfl⟩
abbrev s_Chain_words_on : Stmt := inClass (topS 9) 3
theorem sc_Chain_words_on : FnScope ["self"] ["self"] (defScope s_Chain_words_on) := ⟨rfl, rfl, rfl, by decide +kernel, rfl, by decide +kernel, by decide +kernel⟩
theorem fn_Chain_words_on {f : Addr} {fd : FuncData} (F : Fun κ.K "words_on" "Chain.words_on" s_Chain_words_on f fd) (T : Txt κ mg) : FnOk P w κ.K mg base (L2.CX P w) 1 f fd ["self"] (spV κ [false] g_Chain_words_on) := by
  have sc := sc_Chain_words_on
  refine F.okX sc (fun vs H Q E h => spV_len h) fun cdv A outer s H vs Q E hr h => ⟨tS κ (fun c d _ H' => E c d H') b_Chain_words_on, ?_, v_end (k := 0) rfl h⟩
  have tk : Takes (cxOf (L2.CX P w) P w κ.K mg base ["self"] "Chain.words_on" (defScope s_Chain_words_on) f cdv A outer s H E) (fun c d _ H' => E c d H') := takes_of rfl rfl rfl rfl
  have hp := passes_of (X := cxOf (L2.CX P w) P w κ.K mg base ["self"] "Chain.words_on" (defScope s_Chain_words_on) f cdv A outer s H E) rfl
  exact s_one (s_ret (v_callTy call_list_of s_list rfl T.z_list (by decide +kernel) (a_bo (v_bo (v_fld T.fld_words rfl (v_var (pv 0)))) (a_nil))))
theorem okM_words_on (T : Txt κ mg) : VMs P w κ mg base "words_on" 1 [] gs_words_on := fun c g e => match c, e with
  | 0, e => by
    cases e
    obtain ⟨f, fd, F, h1, h2, h3⟩ := T.m_0_words_on
    exact ⟨1, by decide, f, fd, ["self"], h1, h2, h3, fn_Chain_words_on F T, F.binds (ps := ["self"]) fun _ _ _ _ _ _ us hl => match us, hl with | [_], _ => rfl⟩
  | n + 1, e => by
    have e : (none : Option FSem) = some g := e
    cases e
abbrev s_Chain_last : Stmt := inClass (topS 9) 2
theorem sc_Chain_last : FnScope ["self"] ["self"] (defScope s_Chain_last) := ⟨rfl, rfl, rfl, by decide +kernel, rfl, by decide +kernel, by decide +kernel⟩
theorem fn_Chain_last {f : Addr} {fd : FuncData} (F : Fun κ.K "last" "Chain.last" s_Chain_last f fd) (T : Txt κ mg) : FnOk P w κ.K mg base (L2.CX P w) 1 f fd ["self"] (spV κ [false] g_Chain_last) := by
  have sc := sc_Chain_last
  refine F.okX sc (fun vs H Q E h => spV_len h) fun cdv A outer s H vs Q E hr h => ⟨tS κ (fun c d _ H' => E c d H') b_Chain_last, ?_, v_end (k := 0) rfl h⟩
  have tk : Takes (cxOf (L2.CX P w) P w κ.K mg base ["self"] "Chain.last" (defScope s_Chain_last) f cdv A outer s H E) (fun c d _ H' => E c d H') := takes_of rfl rfl rfl rfl
  have hp := passes_of (X := cxOf (L2.CX P w) P w κ.K mg base ["self"] "Chain.last" (defScope s_Chain_last) f cdv A outer s H E) rfl
  exact s_one (s_ret (v_sh (v_ix rfl (v_bo (v_fld T.fld_words rfl (v_var (pv 0)))) (v_bo (v_neg (v_int))) (fun _ _ => rfl))))
theorem okM_last (T : Txt κ mg) : VMs P w κ mg base "last" 1 [] gs_last := fun c g e => match c, e with
  | 0, e => by
    cases e
    obtain ⟨f, fd, F, h1, h2, h3⟩ := T.m_0_last
    exact ⟨1, by decide, f, fd, ["self"], h1, h2, h3, fn_Chain_last F T, F.binds (ps := ["self"]) fun _ _ _ _ _ _ us hl => match us, hl with | [_], _ => rfl⟩
  | n + 1, e => by
    have e : (none : Option FSem) = some g := e
    cases e
abbrev s_law : Stmt := topS 21
theorem sc_law : FnScope ["_law_script", "_law_letters_here", "_law_pacts", "_law_chain_here", "_law_straight", "_law_found", "_law_word_here", "_law_met", "_law_step", "_law_steps", "_law_words", "_law_k"] ["_law_script"] (defScope s_law) := ⟨rfl, rfl, rfl, by decide +kernel, rfl, by decide +kernel, by decide +kernel⟩
theorem fn_law {f : Addr} {fd : FuncData} (F : Fun κ.K "law" "law" s_law f fd) (T : Txt κ mg) (K_law_letters : VFn P w κ mg base "_law_letters" 1 [true, true] g_law_letters) (K_law_cell_at : VFn P w κ mg base "_law_cell_at" 1 [true, true] g_law_cell_at) (K_law_pact : VFn P w κ mg base "_law_pact" 2 [true, true, true] g_law_pact) (K_law_chain : VFn P w κ mg base "_law_chain" 2 [true, false, true, true] g_law_chain) (K_law_word : VFn P w κ mg base "_law_word" 1 [true, true, true] g_law_word) (N_Chain : VMk P w κ mg base "Chain" 0 4 [true, false, true] g_Chain_init) (M_straight : VMs P w κ mg base "straight" 6 [] gs_straight) (M_steps_told : VMs P w κ mg base "steps_told" 1 [] gs_steps_told) (K_law_steps_are : VFn P w κ mg base "_law_steps_are" 2 [true, true] g_law_steps_are) (K_law_due : VFn P w κ mg base "_law_due" 1 [true, true] g_law_due) (K_law_after : VFn P w κ mg base "_law_after" 1 [true, true, false] g_law_after) (M_words_on : VMs P w κ mg base "words_on" 1 [] gs_words_on) (M_last : VMs P w κ mg base "last" 1 [] gs_last) (M_first : VMs P w κ mg base "first" 1 [] gs_first) : FnOk P w κ.K mg base (L2.CX P w) 7 f fd ["_law_script"] (spV κ [true] g_law) := by
  have sc := sc_law
  refine F.okX sc (fun vs H Q E h => spV_len h) fun cdv A outer s H vs Q E hr h => ⟨tS κ (fun c d _ H' => E c d H') b_law, ?_, v_end (k := 11) rfl h⟩
  have tk : Takes (cxOf (L2.CX P w) P w κ.K mg base ["_law_script", "_law_letters_here", "_law_pacts", "_law_chain_here", "_law_straight", "_law_found", "_law_word_here", "_law_met", "_law_step", "_law_steps", "_law_words", "_law_k"] "law" (defScope s_law) f cdv A outer s H E) (fun c d _ H' => E c d H') := takes_of rfl rfl rfl rfl
  have hp := passes_of (X := cxOf (L2.CX P w) P w κ.K mg base ["_law_script", "_law_letters_here", "_law_pacts", "_law_chain_here", "_law_straight", "_law_found", "_law_word_here", "_law_met", "_law_step", "_law_steps", "_law_words", "_law_k"] "law" (defScope s_law) f cdv A outer s H E) rfl
  exact s_cons (s_asg (i := 1) sc.nd rfl (by first | exact Or.inl rfl | exact Or.inr rfl) (v_call K_law_letters rfl (hr.mono (by decide)) tk rfl (a_bo (v_bo (v_frz (v_call K_law_cell_at rfl (hr.mono (by decide)) tk rfl (a_bo (b_var (pv 0)) (a_bo (v_bo (v_int)) (a_nil)))))) (a_bo (v_bo (v_int)) (a_nil))))) (s_cons (s_lc (i := 2) (own := [("_law_k", 11)]) (vs := [11]) rfl sc.nd rfl rfl rfl (sw_true rfl rfl rfl (by decide +kernel)) (i_rg1 rfl rfl T.z_range (a_bo (v_bo (v_int)) (a_nil))) (blkOk_by (own := [("_law_k", 11)]) (N := ["_law_script", "_law_letters_here", "_law_pacts", "_law_chain_here", "_law_straight", "_law_found", "_law_word_here", "_law_met", "_law_step", "_law_steps", "_law_words", "_law_k"]) (sc := defScope s_law) (by decide +kernel)) (fun _ _ _ _ _ => pg_name (i := 11) sc.nd rfl (by first | exact Or.inl rfl | exact Or.inr rfl)) (to_name 11 rfl) (fun _ _ _ _ _ => pts_yes) (fun _ _ _ _ _ => v_frz (v_call K_law_pact rfl (hr.mono (by decide)) takes0 rfl (a_bo (v_bo (v_frz (v_call K_law_cell_at rfl (hr.mono (by decide)) takes0 rfl (a_bo (b_var (pv 0)) (a_bo (v_bo (v_frz (v_op o_add s_add (v_bo (v_int)) (b_var (pv 11))))) (a_nil)))))) (a_bo (b_var (pv 1)) (a_bo (v_bo (v_int)) (a_nil))))))) (s_cons (s_tg (pg_tup rfl (pgs_cons (pg_name (i := 9) sc.nd rfl (by first | exact Or.inl rfl | exact Or.inr rfl)) (pgs_cons (pg_name (i := 10) sc.nd rfl (by first | exact Or.inl rfl | exact Or.inr rfl)) (pgs_nil)))) (tg_tup [9, 10] rfl) (im (v_frz (v_call K_law_chain rfl (hr.mono (by decide)) tk rfl (a_bo (b_var (pv 2)) (a_sh (v_frz (v_call K_law_word rfl (hr.mono (by decide)) tk rfl (a_bo (v_bo (v_frz (v_call K_law_cell_at rfl (hr.mono (by decide)) tk rfl (a_bo (b_var (pv 0)) (a_bo (v_bo (v_int)) (a_nil)))))) (a_bo (b_var (pv 1)) (a_bo (v_bo (v_int)) (a_nil)))))) (a_bo (v_bo (v_frz (v_sl rfl (b_var (pv 0)) (o_some (v_bo (v_int))) (o_some (v_bo (v_int)))))) (a_bo (v_bo (v_int)) (a_nil))))))))) (s_cons (s_asg (i := 3) sc.nd rfl (by first | exact Or.inl rfl | exact Or.inr rfl) (v_sh (v_frz (v_make (ms := [true, false, true]) N_Chain rfl (hr.mono (by decide)) tk rfl (a_bo (v_bo (v_frz (v_callTy call_list_of s_list rfl T.z_list (by decide +kernel) (a_bo (b_var (pv 2)) (a_nil))))) (a_sh (v_ix rfl (b_var (pv 10)) (v_bo (v_int)) (fun _ _ => rfl)) (a_bo (v_bo (v_frz (v_callTy call_list_of s_list rfl T.z_list (by decide +kernel) (a_bo (b_var (pv 9)) (a_nil))))) (a_nil)))))))) (s_cons (s_asg (i := 4) sc.nd rfl (by first | exact Or.inl rfl | exact Or.inr rfl) (v_meth0 M_straight rfl (hr.mono (by decide)) tk (v_var (pv 3)))) (s_cons (s_asg (i := 5) sc.nd rfl (by first | exact Or.inl rfl | exact Or.inr rfl) (v_meth0 M_steps_told rfl (hr.mono (by decide)) tk (v_var (pv 4)))) (s_cons (s_if (t_not (t_tru rfl (v_bo (v_frz (v_call K_law_steps_are rfl (hr.mono (by decide)) tk rfl (a_bo (b_var (pv 5)) (a_bo (v_bo (v_frz (v_call K_law_due rfl (hr.mono (by decide)) tk rfl (a_bo (b_var (pv 9)) (a_bo (b_var (pv 10)) (a_nil)))))) (a_nil)))))))) (s_one (s_ret (v_sh (v_bl)))) (s_nil)) (s_cons (s_asg (i := 6) sc.nd rfl (by first | exact Or.inl rfl | exact Or.inr rfl) (v_sh (v_ix rfl (b_var (pv 10)) (v_bo (v_int)) (fun _ _ => rfl)))) (s_cons (s_asg (i := 7) sc.nd rfl (by first | exact Or.inl rfl | exact Or.inr rfl) (v_lst (ms := [false]) rfl (a_sh (v_var (pv 6)) (a_nil)))) (s_cons (s_lock (i := 5) (s_for hp rfl (i_anyN rfl (pv 5)) (pg_name (i := 8) sc.nd rfl (by first | exact Or.inl rfl | exact Or.inr rfl)) (tg_name 8) (s_cons (s_asg (i := 6) sc.nd rfl (by first | exact Or.inl rfl | exact Or.inr rfl) (v_call K_law_after rfl (hr.mono (by decide)) tk rfl (a_bo (b_var (pv 2)) (a_bo (b_var (pv 6)) (a_sh (v_var (pv 8)) (a_nil)))))) (s_cons (s_if (PW.pt (w_or (t_cmp op_isN s_isN (b_var (pv 6)) (v_bo (v_non)) (nomark _)) (w_or1 (t_cmp (o_inA rfl (units65 hr)) s_inA (b_var (pv 6)) (b_var (pv 7)) (by rfl))))) (s_one (s_ret (v_sh (v_bl)))) (s_nil)) (s_one (s_app (i := 7) rfl (pv 7) (v_var (pv 6)))))))) (s_cons (s_if (PW.pt (w_or (t_cmp (o_ne rfl hr.units) s_ne (v_bo (v_frz (v_meth0 M_words_on rfl (hr.mono (by decide)) tk (v_var (pv 4))))) (b_var (pv 7)) (nomark _)) (w_or1 (t_cmp (o_ne rfl hr.units) s_ne (v_bo (v_ix rfl (b_var (pv 7)) (v_bo (v_neg (v_int))) (fun _ _ => rfl))) (v_bo (v_ix rfl (b_var (pv 10)) (v_bo (v_neg (v_int))) (fun _ _ => rfl))) (nomark _))))) (s_one (s_ret (v_sh (v_bl)))) (s_nil)) (s_cons (s_if (PW.pt (w_or (t_cmp (o_ne rfl hr.units) s_ne (v_bo (v_frz (v_meth0 M_first rfl (hr.mono (by decide)) tk (v_var (pv 4))))) (v_bo (v_ix rfl (b_var (pv 7)) (v_bo (v_int)) (fun _ _ => rfl))) (nomark _)) (w_or1 (t_cmp (o_ne rfl hr.units) s_ne (v_bo (v_frz (v_meth0 M_last rfl (hr.mono (by decide)) tk (v_var (pv 4))))) (v_bo (v_ix rfl (b_var (pv 7)) (v_bo (v_neg (v_int))) (fun _ _ => rfl))) (nomark _))))) (s_one (s_ret (v_sh (v_bl)))) (s_nil)) (s_cons (s_if (t_not (t_tru rfl (v_bo (v_frz (v_call K_law_steps_are rfl (hr.mono (by decide)) tk rfl (a_bo (v_bo (v_frz (v_meth0 M_steps_told rfl (hr.mono (by decide)) tk (v_frz (v_meth0 M_straight rfl (hr.mono (by decide)) tk (v_var (pv 4))))))) (a_bo (b_var (pv 5)) (a_nil)))))))) (s_one (s_ret (v_sh (v_bl)))) (s_nil)) (s_one (s_ret (v_sh (v_and (v_frz (v_call K_law_steps_are rfl (hr.mono (by decide)) tk rfl (a_bo (v_bo (v_frz (v_meth0 M_steps_told rfl (hr.mono (by decide)) tk (v_var (pv 3))))) (a_bo (b_var (pv 9)) (a_nil))))) (v_one (v_cmp (o_eq rfl hr.units) s_eq (v_bo (v_frz (v_meth0 M_words_on rfl (hr.mono (by decide)) tk (v_var (pv 3))))) (b_var (pv 10)) (nomark _)))))))))))))))))))
theorem ok_law (T : Txt κ mg) (K_law_letters : VFn P w κ mg base "_law_letters" 1 [true, true] g_law_letters) (K_law_cell_at : VFn P w κ mg base "_law_cell_at" 1 [true, true] g_law_cell_at) (K_law_pact : VFn P w κ mg base "_law_pact" 2 [true, true, true] g_law_pact) (K_law_chain : VFn P w κ mg base "_law_chain" 2 [true, false, true, true] g_law_chain) (K_law_word : VFn P w κ mg base "_law_word" 1 [true, true, true] g_law_word) (N_Chain : VMk P w κ mg base "Chain" 0 4 [true, false, true] g_Chain_init) (M_straight : VMs P w κ mg base "straight" 6 [] gs_straight) (M_steps_told : VMs P w κ mg base "steps_told" 1 [] gs_steps_told) (K_law_steps_are : VFn P w κ mg base "_law_steps_are" 2 [true, true] g_law_steps_are) (K_law_due : VFn P w κ mg base "_law_due" 1 [true, true] g_law_due) (K_law_after : VFn P w κ mg base "_law_after" 1 [true, true, false] g_law_after) (M_words_on : VMs P w κ mg base "words_on" 1 [] gs_words_on) (M_last : VMs P w κ mg base "last" 1 [] gs_last) (M_first : VMs P w κ mg base "first" 1 [] gs_first) : VFn P w κ mg base "law" 7 [true] g_law := by
  obtain ⟨f, fd, F, hm⟩ := T.d_law
  exact ⟨f, fd, ["_law_script"], hm, F.kp, fn_law F T K_law_letters K_law_cell_at K_law_pact K_law_chain K_law_word N_Chain M_straight M_steps_told K_law_steps_are K_law_due K_law_after M_words_on M_last M_first, F.binds (ps := ["_law_script"]) fun _ _ _ _ _ _ us hl => match us, hl with | [_], _ => rfl⟩
end
end Lw

set_option Elab.async false
set_option linter.all false
set_option maxRecDepth 100000
set_option maxHeartbeats 4000000
namespace Lw
open PySem L2 Vs
def kx (K : PySem.W.Frag) (C_Chain C_LetterError C_NoUse : Addr) : Kx := ⟨K, fun i => match i with | 0 => C_Chain | _ => 0, fun i => match i with | 0 => ["pacts", "steps", "words"] | _ => [], fun i => match i with | 0 => C_LetterError | 1 => C_NoUse | _ => 0, xf, []⟩
theorem all_mk {l : PySem.W.OpenLaw} {w : World} {K : PySem.W.Frag} {h : Heap} {mg : Str → Option Value} {fa : Addr} (X : K.In h) (G : h.Ns mainGlobals mg) (hfa : mg "law" = some (.ref fa))
    {C_LetterError : Addr}
    {C_NoUse : Addr}
    (xg_LetterError : PySem.W.nsIn K mainGlobals "LetterError" = some (some (.ref C_LetterError)))
    (xg_NoUse : PySem.W.nsIn K mainGlobals "NoUse" = some (some (.ref C_NoUse)))
    {nm_NoUse q_NoUse : Str}
    {N_NoUse : Addr}
    {bs_NoUse sub_NoUse bm_NoUse : List Value}
    {sn_NoUse : List Str}
    {ab_NoUse : Bool}
    {col_NoUse : Option Bool}
    {dd_NoUse : Option Addr}
    {ma_NoUse mb_NoUse mc_NoUse md_NoUse me_NoUse : Option Value}
    {fi_NoUse : Addr}
    {fod_NoUse fan_NoUse : Option Addr}
    {fsl_NoUse : Array (Option Value)}
    {foc_NoUse fdc_NoUse fpm_NoUse fcd_NoUse fct_NoUse : Value}
    {p1_NoUse p2_NoUse q1_NoUse q2_NoUse q3_NoUse q4_NoUse : Pos}
    (xL_NoUse : K.lookup C_NoUse = some (excClassObj nm_NoUse q_NoUse C_NoUse N_NoUse bs_NoUse bm_NoUse true sn_NoUse sub_NoUse ab_NoUse col_NoUse dd_NoUse ma_NoUse mb_NoUse mc_NoUse md_NoUse me_NoUse "ValueError.__new__"))
    (bv_NoUse : PySem.HandSPX.refsVE bm_NoUse = true)
    (sa_NoUse : PySem.W.findIn K (.ref C_NoUse) "__setattr__" = some (some (.builtin "object.__setattr__")))
    (ga_NoUse : PySem.W.findIn K (.ref C_NoUse) "__getattribute__" = some (some (.builtin "BaseException.__getattribute__")))
    (gg_NoUse : PySem.W.findIn K (.ref C_NoUse) "__getattr__" = some none)
    (nf_NoUse : PySem.W.findIn K (.ref C_NoUse) "at" = some none)
    (in_NoUse : PySem.W.findIn K (.ref C_NoUse) "__init__" = some (some (.ref fi_NoUse)))
    (tf_NoUse : PySem.W.typeIn K (.ref fi_NoUse) = some (.type "function"))
    (li_NoUse : K.lookup fi_NoUse = some ⟨foc_NoUse, fod_NoUse, .func (PySem.W.fnOf "__init__" "NoUse.__init__" (PySem.LowX_NoUse.iA p1_NoUse p2_NoUse) (PySem.LowX_NoUse.iB q1_NoUse q2_NoUse q3_NoUse q4_NoUse) PySem.LowX_NoUse.iS .none .none fdc_NoUse fpm_NoUse fan_NoUse fcd_NoUse fct_NoUse), fsl_NoUse⟩)
    (ci_NoUse : PySem.W.codeIn K fcd_NoUse "NoUse.__init__" = true)
    (kp_NoUse : PySem.W.keepIn K (.ref C_NoUse) = true)
    (sb_NoUse : PySem.W.subIn K (.ref C_NoUse) (.type "BaseException") = some true)
    (ty_NoUse : PySem.W.typeIn K (.ref C_NoUse) = some (.type "type"))
    (hd_NoUse : PySem.W.hasDictIn K C_NoUse = true)
    (ic_NoUse : PySem.W.isClsIn K C_NoUse = true)
    (su_NoUse_NoUse : PySem.W.subIn K (.ref C_NoUse) (.ref C_NoUse) = some true)
    (su_LetterError_NoUse : PySem.W.subIn K (.ref C_LetterError) (.ref C_NoUse) = some false)
    {f1 : Addr} {od1 an1 : Option Addr} {sl1 : Array (Option Value)} {oc1 kV1 dc1 pm1 cd1 ct1 : Value}
    {f2 : Addr} {od2 an2 : Option Addr} {sl2 : Array (Option Value)} {oc2 kV2 dc2 pm2 cd2 ct2 : Value}
    {f3 : Addr} {od3 an3 : Option Addr} {sl3 : Array (Option Value)} {oc3 kV3 dc3 pm3 cd3 ct3 : Value}
    {f4 : Addr} {od4 an4 : Option Addr} {sl4 : Array (Option Value)} {oc4 kV4 dc4 pm4 cd4 ct4 : Value}
    {f5 : Addr} {od5 an5 : Option Addr} {sl5 : Array (Option Value)} {oc5 kV5 dc5 pm5 cd5 ct5 : Value}
    {f6 : Addr} {od6 an6 : Option Addr} {sl6 : Array (Option Value)} {oc6 kV6 dc6 pm6 cd6 ct6 : Value}
    {f7 : Addr} {od7 an7 : Option Addr} {sl7 : Array (Option Value)} {oc7 kV7 dc7 pm7 cd7 ct7 : Value}
    {f8 : Addr} {od8 an8 : Option Addr} {sl8 : Array (Option Value)} {oc8 kV8 dc8 pm8 cd8 ct8 : Value}
    {f9 : Addr} {od9 an9 : Option Addr} {sl9 : Array (Option Value)} {oc9 kV9 dc9 pm9 cd9 ct9 : Value}
    {f10 : Addr} {od10 an10 : Option Addr} {sl10 : Array (Option Value)} {oc10 kV10 dc10 pm10 cd10 ct10 : Value}
    {f11 : Addr} {od11 an11 : Option Addr} {sl11 : Array (Option Value)} {oc11 kV11 dc11 pm11 cd11 ct11 : Value}
    {f12 : Addr} {od12 an12 : Option Addr} {sl12 : Array (Option Value)} {oc12 kV12 dc12 pm12 cd12 ct12 : Value}
    {f13 : Addr} {od13 an13 : Option Addr} {sl13 : Array (Option Value)} {oc13 kV13 dc13 pm13 cd13 ct13 : Value}
    {f14 : Addr} {od14 an14 : Option Addr} {sl14 : Array (Option Value)} {oc14 kV14 dc14 pm14 cd14 ct14 : Value}
    {f15 : Addr} {od15 an15 : Option Addr} {sl15 : Array (Option Value)} {oc15 kV15 dc15 pm15 cd15 ct15 : Value}
    {f16 : Addr} {od16 an16 : Option Addr} {sl16 : Array (Option Value)} {oc16 kV16 dc16 pm16 cd16 ct16 : Value}
    {f17 : Addr} {od17 an17 : Option Addr} {sl17 : Array (Option Value)} {oc17 kV17 dc17 pm17 cd17 ct17 : Value}
    {f18 : Addr} {od18 an18 : Option Addr} {sl18 : Array (Option Value)} {oc18 kV18 dc18 pm18 cd18 ct18 : Value}
    {f19 : Addr} {od19 an19 : Option Addr} {sl19 : Array (Option Value)} {oc19 kV19 dc19 pm19 cd19 ct19 : Value}
    {f20 : Addr} {od20 an20 : Option Addr} {sl20 : Array (Option Value)} {oc20 kV20 dc20 pm20 cd20 ct20 : Value}
    {C_Chain : Addr}
    (cg_Chain : PySem.W.nsIn K mainGlobals "Chain" = some (some (.ref C_Chain)))
    (pg_Chain : PySem.W.plainGet K C_Chain Str.empty = true)
    (hd_Chain : PySem.W.hasDictIn K C_Chain = true)
    (po_Chain : PySem.W.plainOver K C_Chain = true)
    (sa_Chain : PySem.W.findIn K (.ref C_Chain) "__setattr__" = some (some (.builtin "object.__setattr__")))
    (na_Chain_pacts : PySem.W.findIn K (.ref C_Chain) "pacts" = some none)
    (na_Chain_steps : PySem.W.findIn K (.ref C_Chain) "steps" = some none)
    (na_Chain_words : PySem.W.findIn K (.ref C_Chain) "words" = some none)
    (mt_Chain_first : PySem.W.findIn K (.ref C_Chain) "first" = some (some (.ref f9)))
    (if9 : PySem.W.isFn K (.ref f9) = true)
    (l9 : K.lookup f9 = some ⟨oc9, od9, .func (PySem.W.fnOf "first" "Chain.first" (defArgs (inClass (topS 9) 1)) (defBody (inClass (topS 9) 1)) (defScope (inClass (topS 9) 1)) .none kV9 dc9 pm9 an9 cd9 ct9), sl9⟩)
    (c9 : PySem.W.codeIn K cd9 "Chain.first" = true)
    (k9 : PySem.W.keepIn K (.ref f9) = true)
    (mt_Chain_last : PySem.W.findIn K (.ref C_Chain) "last" = some (some (.ref f19)))
    (if19 : PySem.W.isFn K (.ref f19) = true)
    (l19 : K.lookup f19 = some ⟨oc19, od19, .func (PySem.W.fnOf "last" "Chain.last" (defArgs (inClass (topS 9) 2)) (defBody (inClass (topS 9) 2)) (defScope (inClass (topS 9) 2)) .none kV19 dc19 pm19 an19 cd19 ct19), sl19⟩)
    (c19 : PySem.W.codeIn K cd19 "Chain.last" = true)
    (k19 : PySem.W.keepIn K (.ref f19) = true)
    (mt_Chain_steps_told : PySem.W.findIn K (.ref C_Chain) "steps_told" = some (some (.ref f11)))
    (if11 : PySem.W.isFn K (.ref f11) = true)
    (l11 : K.lookup f11 = some ⟨oc11, od11, .func (PySem.W.fnOf "steps_told" "Chain.steps_told" (defArgs (inClass (topS 9) 4)) (defBody (inClass (topS 9) 4)) (defScope (inClass (topS 9) 4)) .none kV11 dc11 pm11 an11 cd11 ct11), sl11⟩)
    (c11 : PySem.W.codeIn K cd11 "Chain.steps_told" = true)
    (k11 : PySem.W.keepIn K (.ref f11) = true)
    (mt_Chain_straight : PySem.W.findIn K (.ref C_Chain) "straight" = some (some (.ref f10)))
    (if10 : PySem.W.isFn K (.ref f10) = true)
    (l10 : K.lookup f10 = some ⟨oc10, od10, .func (PySem.W.fnOf "straight" "Chain.straight" (defArgs (inClass (topS 9) 8)) (defBody (inClass (topS 9) 8)) (defScope (inClass (topS 9) 8)) .none kV10 dc10 pm10 an10 cd10 ct10), sl10⟩)
    (c10 : PySem.W.codeIn K cd10 "Chain.straight" = true)
    (k10 : PySem.W.keepIn K (.ref f10) = true)
    (mt_Chain_words_on : PySem.W.findIn K (.ref C_Chain) "words_on" = some (some (.ref f18)))
    (if18 : PySem.W.isFn K (.ref f18) = true)
    (l18 : K.lookup f18 = some ⟨oc18, od18, .func (PySem.W.fnOf "words_on" "Chain.words_on" (defArgs (inClass (topS 9) 3)) (defBody (inClass (topS 9) 3)) (defScope (inClass (topS 9) 3)) .none kV18 dc18 pm18 an18 cd18 ct18), sl18⟩)
    (c18 : PySem.W.codeIn K cd18 "Chain.words_on" = true)
    (k18 : PySem.W.keepIn K (.ref f18) = true)
    (mt_Chain___init__ : PySem.W.findIn K (.ref C_Chain) "__init__" = some (some (.ref f8)))
    (if8 : PySem.W.isFn K (.ref f8) = true)
    (l8 : K.lookup f8 = some ⟨oc8, od8, .func (PySem.W.fnOf "__init__" "Chain.__init__" (defArgs (inClass (topS 9) 0)) (defBody (inClass (topS 9) 0)) (defScope (inClass (topS 9) 0)) .none kV8 dc8 pm8 an8 cd8 ct8), sl8⟩)
    (c8 : PySem.W.codeIn K cd8 "Chain.__init__" = true)
    (k8 : PySem.W.keepIn K (.ref f8) = true)
    (mk_Chain : PySem.W.makesIn K C_Chain = true)
    (kc_Chain : PySem.W.keepIn K (.ref C_Chain) = true)
    (a1 : PySem.W.nsIn K mainGlobals "_law_letters" = some (some (.ref f1)))
    (l1 : K.lookup f1 = some ⟨oc1, od1, .func (PySem.W.fnOf "_law_letters" "_law_letters" (defArgs (topS 13)) (defBody (topS 13)) (defScope (topS 13)) .none kV1 dc1 pm1 an1 cd1 ct1), sl1⟩)
    (c1 : PySem.W.codeIn K cd1 "_law_letters" = true)
    (k1 : PySem.W.keepIn K (.ref f1) = true)
    (a2 : PySem.W.nsIn K mainGlobals "_law_uses" = some (some (.ref f2)))
    (l2 : K.lookup f2 = some ⟨oc2, od2, .func (PySem.W.fnOf "_law_uses" "_law_uses" (defArgs (topS 17)) (defBody (topS 17)) (defScope (topS 17)) .none kV2 dc2 pm2 an2 cd2 ct2), sl2⟩)
    (c2 : PySem.W.codeIn K cd2 "_law_uses" = true)
    (k2 : PySem.W.keepIn K (.ref f2) = true)
    (a3 : PySem.W.nsIn K mainGlobals "_law_after" = some (some (.ref f3)))
    (l3 : K.lookup f3 = some ⟨oc3, od3, .func (PySem.W.fnOf "_law_after" "_law_after" (defArgs (topS 16)) (defBody (topS 16)) (defScope (topS 16)) .none kV3 dc3 pm3 an3 cd3 ct3), sl3⟩)
    (c3 : PySem.W.codeIn K cd3 "_law_after" = true)
    (k3 : PySem.W.keepIn K (.ref f3) = true)
    (a4 : PySem.W.nsIn K mainGlobals "_law_chain" = some (some (.ref f4)))
    (l4 : K.lookup f4 = some ⟨oc4, od4, .func (PySem.W.fnOf "_law_chain" "_law_chain" (defArgs (topS 18)) (defBody (topS 18)) (defScope (topS 18)) .none kV4 dc4 pm4 an4 cd4 ct4), sl4⟩)
    (c4 : PySem.W.codeIn K cd4 "_law_chain" = true)
    (k4 : PySem.W.keepIn K (.ref f4) = true)
    (a5 : PySem.W.nsIn K mainGlobals "put" = some (some (.ref f5)))
    (l5 : K.lookup f5 = some ⟨oc5, od5, .func (PySem.W.fnOf "put" "put" (defArgs (topS 5)) (defBody (topS 5)) (defScope (topS 5)) .none kV5 dc5 pm5 an5 cd5 ct5), sl5⟩)
    (c5 : PySem.W.codeIn K cd5 "put" = true)
    (k5 : PySem.W.keepIn K (.ref f5) = true)
    (a6 : PySem.W.nsIn K mainGlobals "used" = some (some (.ref f6)))
    (l6 : K.lookup f6 = some ⟨oc6, od6, .func (PySem.W.fnOf "used" "used" (defArgs (topS 7)) (defBody (topS 7)) (defScope (topS 7)) .none kV6 dc6 pm6 an6 cd6 ct6), sl6⟩)
    (c6 : PySem.W.codeIn K cd6 "used" = true)
    (k6 : PySem.W.keepIn K (.ref f6) = true)
    (a7 : PySem.W.nsIn K mainGlobals "walked" = some (some (.ref f7)))
    (l7 : K.lookup f7 = some ⟨oc7, od7, .func (PySem.W.fnOf "walked" "walked" (defArgs (topS 8)) (defBody (topS 8)) (defScope (topS 8)) .none kV7 dc7 pm7 an7 cd7 ct7), sl7⟩)
    (c7 : PySem.W.codeIn K cd7 "walked" = true)
    (k7 : PySem.W.keepIn K (.ref f7) = true)
    (a12 : PySem.W.nsIn K mainGlobals "_law_cell_at" = some (some (.ref f12)))
    (l12 : K.lookup f12 = some ⟨oc12, od12, .func (PySem.W.fnOf "_law_cell_at" "_law_cell_at" (defArgs (topS 11)) (defBody (topS 11)) (defScope (topS 11)) .none kV12 dc12 pm12 an12 cd12 ct12), sl12⟩)
    (c12 : PySem.W.codeIn K cd12 "_law_cell_at" = true)
    (k12 : PySem.W.keepIn K (.ref f12) = true)
    (a13 : PySem.W.nsIn K mainGlobals "_law_word" = some (some (.ref f13)))
    (l13 : K.lookup f13 = some ⟨oc13, od13, .func (PySem.W.fnOf "_law_word" "_law_word" (defArgs (topS 14)) (defBody (topS 14)) (defScope (topS 14)) .none kV13 dc13 pm13 an13 cd13 ct13), sl13⟩)
    (c13 : PySem.W.codeIn K cd13 "_law_word" = true)
    (k13 : PySem.W.keepIn K (.ref f13) = true)
    (a14 : PySem.W.nsIn K mainGlobals "_law_pact" = some (some (.ref f14)))
    (l14 : K.lookup f14 = some ⟨oc14, od14, .func (PySem.W.fnOf "_law_pact" "_law_pact" (defArgs (topS 15)) (defBody (topS 15)) (defScope (topS 15)) .none kV14 dc14 pm14 an14 cd14 ct14), sl14⟩)
    (c14 : PySem.W.codeIn K cd14 "_law_pact" = true)
    (k14 : PySem.W.keepIn K (.ref f14) = true)
    (a15 : PySem.W.nsIn K mainGlobals "_law_whole" = some (some (.ref f15)))
    (l15 : K.lookup f15 = some ⟨oc15, od15, .func (PySem.W.fnOf "_law_whole" "_law_whole" (defArgs (topS 12)) (defBody (topS 12)) (defScope (topS 12)) .none kV15 dc15 pm15 an15 cd15 ct15), sl15⟩)
    (c15 : PySem.W.codeIn K cd15 "_law_whole" = true)
    (k15 : PySem.W.keepIn K (.ref f15) = true)
    (a16 : PySem.W.nsIn K mainGlobals "_law_steps_are" = some (some (.ref f16)))
    (l16 : K.lookup f16 = some ⟨oc16, od16, .func (PySem.W.fnOf "_law_steps_are" "_law_steps_are" (defArgs (topS 19)) (defBody (topS 19)) (defScope (topS 19)) .none kV16 dc16 pm16 an16 cd16 ct16), sl16⟩)
    (c16 : PySem.W.codeIn K cd16 "_law_steps_are" = true)
    (k16 : PySem.W.keepIn K (.ref f16) = true)
    (a17 : PySem.W.nsIn K mainGlobals "_law_due" = some (some (.ref f17)))
    (l17 : K.lookup f17 = some ⟨oc17, od17, .func (PySem.W.fnOf "_law_due" "_law_due" (defArgs (topS 20)) (defBody (topS 20)) (defScope (topS 20)) .none kV17 dc17 pm17 an17 cd17 ct17), sl17⟩)
    (c17 : PySem.W.codeIn K cd17 "_law_due" = true)
    (k17 : PySem.W.keepIn K (.ref f17) = true)
    (a20 : PySem.W.nsIn K mainGlobals "law" = some (some (.ref f20)))
    (l20 : K.lookup f20 = some ⟨oc20, od20, .func (PySem.W.fnOf "law" "law" (defArgs (topS 21)) (defBody (topS 21)) (defScope (topS 21)) .none kV20 dc20 pm20 an20 cd20 ct20), sl20⟩)
    (c20 : PySem.W.codeIn K cd20 "law" = true)
    (k20 : PySem.W.keepIn K (.ref f20) = true)
    (z_range : PySem.W.nsIn K mainGlobals "range" = some none)
    (z_enumerate : PySem.W.nsIn K mainGlobals "enumerate" = some none)
    (z_len : PySem.W.nsIn K mainGlobals "len" = some none)
    (z_list : PySem.W.nsIn K mainGlobals "list" = some none)
    (z_isinstance : PySem.W.nsIn K mainGlobals "isinstance" = some none)
    (z_bool : PySem.W.nsIn K mainGlobals "bool" = some none)
    (z_int : PySem.W.nsIn K mainGlobals "int" = some none)
    (z_zip : PySem.W.nsIn K mainGlobals "zip" = some none)
    (z_tuple : PySem.W.nsIn K mainGlobals "tuple" = some none) :
    ∃ fd : FuncData, (∀ (s : Shared) (v : Value), BindsTo s fd ⟨[v], []⟩ [("_law_script", v)]) ∧ ∀ base : Heap, K.In base → base.Ns mainGlobals mg → FnOk l.prog w K mg base (L2.CX l.prog w) 7 fa fd ["_law_script"] (spLaw K) := by
  have T : Txt (kx K C_Chain C_LetterError C_NoUse) mg := ⟨rfl,
    PySem.W.mg_of X G xg_LetterError,
    PySem.W.mg_of X G xg_NoUse,
    ⟨fi_NoUse, { gC := PySem.W.mg_of X G xg_NoUse, cls := ⟨nm_NoUse, q_NoUse, N_NoUse, bs_NoUse, _, sn_NoUse, sub_NoUse, ab_NoUse, col_NoUse, dd_NoUse, ma_NoUse, mb_NoUse, mc_NoUse, md_NoUse, me_NoUse, xL_NoUse, bv_NoUse⟩, sa := sa_NoUse, ga := ga_NoUse, gg := gg_NoUse, noN := nf_NoUse, iC := in_NoUse, tC := tf_NoUse, kC := kp_NoUse, exC := sb_NoUse, tyC := ty_NoUse, hdC := hd_NoUse, te := exm_ofs sb_NoUse ic_NoUse ty_NoUse su_NoUse_NoUse, fn := ⟨_, _, _, _, _, _, _, _, _, _, _, _, _, _, li_NoUse, ci_NoUse⟩ }⟩,
    (fun c b e => match c, e with | 0, e => by have e : some false = some b := e; cases e; exact exm_ofs sb_NoUse ic_NoUse ty_NoUse su_LetterError_NoUse | 1, e => by have e : some true = some b := e; cases e; exact exm_ofs sb_NoUse ic_NoUse ty_NoUse su_NoUse_NoUse | n + 2, e => by have e : none = some b := e; cases e),
    ⟨fun c k e => match c, e with | 0, e => by have e : some 0 = some k := e; cases e; exact ⟨⟨pg_Chain, hd_Chain, po_Chain, sa_Chain⟩, na_Chain_pacts, rfl, (by show (["pacts", "steps", "words"] : List Str).Nodup; decide +kernel), (by show (["pacts", "steps", "words"] : List Str).length < 1000; decide)⟩ | n + 1, e => by have e : (none : Option Nat) = some k := e; cases e⟩,
    ⟨fun c k e => match c, e with | 0, e => by have e : some 1 = some k := e; cases e; exact ⟨⟨pg_Chain, hd_Chain, po_Chain, sa_Chain⟩, na_Chain_steps, rfl, (by show (["pacts", "steps", "words"] : List Str).Nodup; decide +kernel), (by show (["pacts", "steps", "words"] : List Str).length < 1000; decide)⟩ | n + 1, e => by have e : (none : Option Nat) = some k := e; cases e⟩,
    ⟨fun c k e => match c, e with | 0, e => by have e : some 2 = some k := e; cases e; exact ⟨⟨pg_Chain, hd_Chain, po_Chain, sa_Chain⟩, na_Chain_words, rfl, (by show (["pacts", "steps", "words"] : List Str).Nodup; decide +kernel), (by show (["pacts", "steps", "words"] : List Str).length < 1000; decide)⟩ | n + 1, e => by have e : (none : Option Nat) = some k := e; cases e⟩,
    ⟨_, _, fun_mk (st := inClass (topS 9) 1) l9 c9 k9, ⟨pg_Chain, hd_Chain, po_Chain, sa_Chain⟩, ⟨mt_Chain_first, if9, k9⟩, (by show ("first" : Str) ∉ (["pacts", "steps", "words"] : List Str); decide +kernel)⟩,
    ⟨_, _, fun_mk (st := inClass (topS 9) 2) l19 c19 k19, ⟨pg_Chain, hd_Chain, po_Chain, sa_Chain⟩, ⟨mt_Chain_last, if19, k19⟩, (by show ("last" : Str) ∉ (["pacts", "steps", "words"] : List Str); decide +kernel)⟩,
    ⟨_, _, fun_mk (st := inClass (topS 9) 4) l11 c11 k11, ⟨pg_Chain, hd_Chain, po_Chain, sa_Chain⟩, ⟨mt_Chain_steps_told, if11, k11⟩, (by show ("steps_told" : Str) ∉ (["pacts", "steps", "words"] : List Str); decide +kernel)⟩,
    ⟨_, _, fun_mk (st := inClass (topS 9) 8) l10 c10 k10, ⟨pg_Chain, hd_Chain, po_Chain, sa_Chain⟩, ⟨mt_Chain_straight, if10, k10⟩, (by show ("straight" : Str) ∉ (["pacts", "steps", "words"] : List Str); decide +kernel)⟩,
    ⟨_, _, fun_mk (st := inClass (topS 9) 3) l18 c18 k18, ⟨pg_Chain, hd_Chain, po_Chain, sa_Chain⟩, ⟨mt_Chain_words_on, if18, k18⟩, (by show ("words_on" : Str) ∉ (["pacts", "steps", "words"] : List Str); decide +kernel)⟩,
    ⟨_, _, PySem.W.mg_of X G cg_Chain, ⟨mk_Chain, mt_Chain___init__, if8, kc_Chain⟩, fun_mk (st := inClass (topS 9) 0) l8 c8 k8⟩,
    ⟨_, _, fun_mk (st := topS 13) l1 c1 k1, PySem.W.mg_of X G a1⟩,
    ⟨_, _, fun_mk (st := topS 17) l2 c2 k2, PySem.W.mg_of X G a2⟩,
    ⟨_, _, fun_mk (st := topS 16) l3 c3 k3, PySem.W.mg_of X G a3⟩,
    ⟨_, _, fun_mk (st := topS 18) l4 c4 k4, PySem.W.mg_of X G a4⟩,
    ⟨_, _, fun_mk (st := topS 5) l5 c5 k5, PySem.W.mg_of X G a5⟩,
    ⟨_, _, fun_mk (st := topS 7) l6 c6 k6, PySem.W.mg_of X G a6⟩,
    ⟨_, _, fun_mk (st := topS 8) l7 c7 k7, PySem.W.mg_of X G a7⟩,
    ⟨_, _, fun_mk (st := topS 11) l12 c12 k12, PySem.W.mg_of X G a12⟩,
    ⟨_, _, fun_mk (st := topS 14) l13 c13 k13, PySem.W.mg_of X G a13⟩,
    ⟨_, _, fun_mk (st := topS 15) l14 c14 k14, PySem.W.mg_of X G a14⟩,
    ⟨_, _, fun_mk (st := topS 12) l15 c15 k15, PySem.W.mg_of X G a15⟩,
    ⟨_, _, fun_mk (st := topS 19) l16 c16 k16, PySem.W.mg_of X G a16⟩,
    ⟨_, _, fun_mk (st := topS 20) l17 c17 k17, PySem.W.mg_of X G a17⟩,
    ⟨_, _, fun_mk (st := topS 21) l20 c20 k20, PySem.W.mg_of X G a20⟩,
    PySem.W.mg_none_of X G z_range,
    PySem.W.mg_none_of X G z_enumerate,
    PySem.W.mg_none_of X G z_len,
    PySem.W.mg_none_of X G z_list,
    PySem.W.mg_none_of X G z_isinstance,
    PySem.W.mg_none_of X G z_bool,
    PySem.W.mg_none_of X G z_int,
    PySem.W.mg_none_of X G z_zip,
    PySem.W.mg_none_of X G z_tuple⟩
  have e := hfa.symm.trans (PySem.W.mg_of X G a20)
  cases e
  have F := fun_mk (st := topS 21) l20 c20 k20
  refine ⟨PySem.W.fnOf "law" "law" (defArgs (topS 21)) (defBody (topS 21)) (defScope (topS 21)) .none kV20 dc20 pm20 an20 cd20 ct20, fun s v => ?_, fun base hb hg => ?_⟩
  · exact .of_eq rfl
  · have K_law_letters : VFn l.prog w (kx K C_Chain C_LetterError C_NoUse) mg base "_law_letters" 1 [true, true] g_law_letters := ok_law_letters T
    have K_law_uses : VFn l.prog w (kx K C_Chain C_LetterError C_NoUse) mg base "_law_uses" 1 [true, true, true] g_law_uses := ok_law_uses T
    have K_law_after : VFn l.prog w (kx K C_Chain C_LetterError C_NoUse) mg base "_law_after" 1 [true, true, false] g_law_after := ok_law_after T
    have K_law_chain : VFn l.prog w (kx K C_Chain C_LetterError C_NoUse) mg base "_law_chain" 2 [true, false, true, true] g_law_chain := ok_law_chain T K_law_uses K_law_after
    have K_put : VFn l.prog w (kx K C_Chain C_LetterError C_NoUse) mg base "put" 1 [true, true, true, true] g_put := ok_put T
    have Q_put : VFnN l.prog w (kx K C_Chain C_LetterError C_NoUse) mg base "put" 1 [true, true, true, true] g_put := okQ_put T
    have K_used : VFn l.prog w (kx K C_Chain C_LetterError C_NoUse) mg base "used" 2 [true, true, false] g_used := ok_used T K_put
    have Q_used : VFnN l.prog w (kx K C_Chain C_LetterError C_NoUse) mg base "used" 2 [true, true, false] g_used := okQ_used T Q_put
    have K_walked : VFn l.prog w (kx K C_Chain C_LetterError C_NoUse) mg base "walked" 3 [true, false, true] g_walked := ok_walked T Q_used
    have N_Chain : VMk l.prog w (kx K C_Chain C_LetterError C_NoUse) mg base "Chain" 0 4 [true, false, true] g_Chain_init := okN_Chain T K_walked
    have M_first : VMs l.prog w (kx K C_Chain C_LetterError C_NoUse) mg base "first" 1 [] gs_first := okM_first T
    have M_straight : VMs l.prog w (kx K C_Chain C_LetterError C_NoUse) mg base "straight" 6 [] gs_straight := okM_straight T M_first N_Chain
    have M_steps_told : VMs l.prog w (kx K C_Chain C_LetterError C_NoUse) mg base "steps_told" 1 [] gs_steps_told := okM_steps_told T
    have K_law_cell_at : VFn l.prog w (kx K C_Chain C_LetterError C_NoUse) mg base "_law_cell_at" 1 [true, true] g_law_cell_at := ok_law_cell_at T
    have K_law_word : VFn l.prog w (kx K C_Chain C_LetterError C_NoUse) mg base "_law_word" 1 [true, true, true] g_law_word := ok_law_word T
    have K_law_pact : VFn l.prog w (kx K C_Chain C_LetterError C_NoUse) mg base "_law_pact" 2 [true, true, true] g_law_pact := ok_law_pact T K_law_word
    have K_law_whole : VFn l.prog w (kx K C_Chain C_LetterError C_NoUse) mg base "_law_whole" 1 [true] g_law_whole := ok_law_whole T
    have K_law_steps_are : VFn l.prog w (kx K C_Chain C_LetterError C_NoUse) mg base "_law_steps_are" 2 [true, true] g_law_steps_are := ok_law_steps_are T K_law_whole
    have K_law_due : VFn l.prog w (kx K C_Chain C_LetterError C_NoUse) mg base "_law_due" 1 [true, true] g_law_due := ok_law_due T
    have M_words_on : VMs l.prog w (kx K C_Chain C_LetterError C_NoUse) mg base "words_on" 1 [] gs_words_on := okM_words_on T
    have M_last : VMs l.prog w (kx K C_Chain C_LetterError C_NoUse) mg base "last" 1 [] gs_last := okM_last T
    exact (fn_law F T K_law_letters K_law_cell_at K_law_pact K_law_chain K_law_word N_Chain M_straight M_steps_told K_law_steps_are K_law_due K_law_after M_words_on M_last M_first).imp (law_sp (κ := (kx K C_Chain C_LetterError C_NoUse)) law_true)
end Lw
open PySem PySem.W PyProof.Rows
set_option maxRecDepth 100000 in
set_option maxHeartbeats 0 in
theorem PySem.Challenge.cw_letterlaw_k27_straight_holds : PySem.Challenge.rw_letterlaw_k27_straight.Holds := by
  w_on; o_law; k_head; (case hw => w_witness2)
  k_fill
  refine Vs.walk_law (l := PySem.Challenge.rw_letterlaw_k27_straight) (x := "_law_script") (k := 7) rfl rfl ⟨rfl, by decide, by decide⟩ (fun w h Y => by first | exact PySem.W.kIn_of Y | exact PySem.W.km_in_of Y) ?F
  case F =>
    intro w mg fa h KX G hmg
    refine' Lw.all_mk KX G hmg ?xg_LetterError ?xg_NoUse ?xL_NoUse ?bv_NoUse ?sa_NoUse ?ga_NoUse ?gg_NoUse ?nf_NoUse ?in_NoUse ?tf_NoUse ?li_NoUse ?ci_NoUse ?kp_NoUse ?sb_NoUse ?ty_NoUse ?hd_NoUse ?ic_NoUse ?su_NoUse_NoUse ?su_LetterError_NoUse ?cg_Chain ?pg_Chain ?hd_Chain ?po_Chain ?sa_Chain ?na_Chain_pacts ?na_Chain_steps ?na_Chain_words ?mt_Chain_first ?if9 ?l9 ?c9 ?k9 ?mt_Chain_last ?if19 ?l19 ?c19 ?k19 ?mt_Chain_steps_told ?if11 ?l11 ?c11 ?k11 ?mt_Chain_straight ?if10 ?l10 ?c10 ?k10 ?mt_Chain_words_on ?if18 ?l18 ?c18 ?k18 ?mt_Chain___init__ ?if8 ?l8 ?c8 ?k8 ?mk_Chain ?kc_Chain ?a1 ?l1 ?c1 ?k1 ?a2 ?l2 ?c2 ?k2 ?a3 ?l3 ?c3 ?k3 ?a4 ?l4 ?c4 ?k4 ?a5 ?l5 ?c5 ?k5 ?a6 ?l6 ?c6 ?k6 ?a7 ?l7 ?c7 ?k7 ?a12 ?l12 ?c12 ?k12 ?a13 ?l13 ?c13 ?k13 ?a14 ?l14 ?c14 ?k14 ?a15 ?l15 ?c15 ?k15 ?a16 ?l16 ?c16 ?k16 ?a17 ?l17 ?c17 ?k17 ?a20 ?l20 ?c20 ?k20 ?z_range ?z_enumerate ?z_len ?z_list ?z_isinstance ?z_bool ?z_int ?z_zip ?z_tuple
    (case xg_LetterError => k_is)
    (case xg_NoUse => k_is)
    (case xL_NoUse => k_is)
    (case bv_NoUse => first | rfl | decide +kernel)
    (case sa_NoUse => k_is)
    (case ga_NoUse => k_is)
    (case gg_NoUse => k_is)
    (case nf_NoUse => k_is)
    (case in_NoUse => k_is)
    (case tf_NoUse => k_is)
    (case li_NoUse => k_is)
    (case ci_NoUse => k_is)
    (case kp_NoUse => k_is)
    (case sb_NoUse => k_is)
    (case ty_NoUse => k_is)
    (case hd_NoUse => k_is)
    (case ic_NoUse => k_is)
    (case su_NoUse_NoUse => first | rfl | k_is)
    (case su_LetterError_NoUse => first | rfl | k_is)
    (case cg_Chain => k_is)
    (case pg_Chain => k_is)
    (case hd_Chain => k_is)
    (case po_Chain => k_is)
    (case sa_Chain => k_is)
    (case na_Chain_pacts => k_is)
    (case na_Chain_steps => k_is)
    (case na_Chain_words => k_is)
    (case mt_Chain_first => k_is)
    (case if9 => k_is)
    (case l9 => k_is)
    (case c9 => k_is)
    (case k9 => k_is)
    (case mt_Chain_last => k_is)
    (case if19 => k_is)
    (case l19 => k_is)
    (case c19 => k_is)
    (case k19 => k_is)
    (case mt_Chain_steps_told => k_is)
    (case if11 => k_is)
    (case l11 => k_is)
    (case c11 => k_is)
    (case k11 => k_is)
    (case mt_Chain_straight => k_is)
    (case if10 => k_is)
    (case l10 => k_is)
    (case c10 => k_is)
    (case k10 => k_is)
    (case mt_Chain_words_on => k_is)
    (case if18 => k_is)
    (case l18 => k_is)
    (case c18 => k_is)
    (case k18 => k_is)
    (case mt_Chain___init__ => k_is)
    (case if8 => k_is)
    (case l8 => k_is)
    (case c8 => k_is)
    (case k8 => k_is)
    (case mk_Chain => k_is)
    (case kc_Chain => k_is)
    (case a1 => k_is)
    (case l1 => k_is)
    (case c1 => k_is)
    (case k1 => k_is)
    (case a2 => k_is)
    (case l2 => k_is)
    (case c2 => k_is)
    (case k2 => k_is)
    (case a3 => k_is)
    (case l3 => k_is)
    (case c3 => k_is)
    (case k3 => k_is)
    (case a4 => k_is)
    (case l4 => k_is)
    (case c4 => k_is)
    (case k4 => k_is)
    (case a5 => k_is)
    (case l5 => k_is)
    (case c5 => k_is)
    (case k5 => k_is)
    (case a6 => k_is)
    (case l6 => k_is)
    (case c6 => k_is)
    (case k6 => k_is)
    (case a7 => k_is)
    (case l7 => k_is)
    (case c7 => k_is)
    (case k7 => k_is)
    (case a12 => k_is)
    (case l12 => k_is)
    (case c12 => k_is)
    (case k12 => k_is)
    (case a13 => k_is)
    (case l13 => k_is)
    (case c13 => k_is)
    (case k13 => k_is)
    (case a14 => k_is)
    (case l14 => k_is)
    (case c14 => k_is)
    (case k14 => k_is)
    (case a15 => k_is)
    (case l15 => k_is)
    (case c15 => k_is)
    (case k15 => k_is)
    (case a16 => k_is)
    (case l16 => k_is)
    (case c16 => k_is)
    (case k16 => k_is)
    (case a17 => k_is)
    (case l17 => k_is)
    (case c17 => k_is)
    (case k17 => k_is)
    (case a20 => k_is)
    (case l20 => k_is)
    (case c20 => k_is)
    (case k20 => k_is)
    (case z_range => k_is)
    (case z_enumerate => k_is)
    (case z_len => k_is)
    (case z_list => k_is)
    (case z_isinstance => k_is)
    (case z_bool => k_is)
    (case z_int => k_is)
    (case z_zip => k_is)
    (case z_tuple => k_is)
