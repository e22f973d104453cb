import PyProof.Rows.All
import Wide.All
import OpenK.AllK
import Wide.FinOn
import HandS.ForMost
import HandS.ForExc
import HandS.Wide
import HandS.WideBits
import HandS.IsInst
import HandS.StrMore
import HandS.EndBits
import HandS.RevRange
import PyProof.EqAt
import PyProof.EqKinds
import PyProof.TupleCall
import Open.SpecLaws
import KE.OsGo
import HandS.ForSpec
import HandS.ExcField
import HandS.TryMany
import HandS.TryOnly
import HandS.Defaults
import HandS.CallSlots
import KE.KExcIs
import HandS.Conv
import KE.DataCmp
import HandS.Deep
import PySem.Challenge.RW_letterlaw_k66_tables_within
set_option Elab.async false
set_option linter.all false
set_option maxRecDepth 100000
set_option maxHeartbeats 2000000
/-! Vs: a reading of a def's text as a plain function over values (lists and tuples as trees), proved over the hand layer once for each construct. -/
namespace Vs
open PySem L2

/-- an error of the program's own: the number of its class, the value of its one attribute -/
structure Ex where
  c : Nat
  a : Option Int
/-- where a caught error stands -/
structure Xo where
  a : Addr
  cls : Value
  d : Option Addr
/-- values as trees -/
inductive D where
  | non | bl (b : Bool) | int (i : Int) | str (w : List Nat) | lst (l : List D) | tup (l : List D) | ob (c : Nat) (l : List D) | scr (ns : List Int) | xn (o : Xo) (x : Ex)

def S (w : List Nat) : Str := ⟨w.toArray⟩
theorem S_list (x : Str) : S x.cps.toList = x := by cases x; rfl
theorem S_cps (w : List Nat) : (S w).cps.toList = w := rfl
theorem S_len (w : List Nat) : (S w).length = w.length := by simp [S, Str.length]
theorem S_inj {a b : List Nat} (h : S a = S b) : a = b := by
  have := congrArg (fun z : Str => z.cps.toList) h
  simpa [S_cps] using this

/-- the written part, and what classes are made of -/
structure Kx where
  K : PySem.W.Frag
  cl : Nat → Addr
  fl : Nat → List Str
  xc : Nat → Addr
  xf : Nat → Option Str

def XR (κ : Kx) (H : Hp) (x : Ex) (c : Value) (d : Option Addr) : Prop := c = .ref (κ.xc x.c) ∧ match κ.xf x.c, x.a with
  | none, _ => d = none
  | some f, some z => ∃ b, d = some b ∧ H b = some (.xd [(f, .int z)])
  | some _, none => False
mutual
inductive Rp (κ : Kx) (G : Hp) : V → D → Prop
  | non : Rp κ G .non .non
  | bl (b : Bool) : Rp κ G (.bl b) (.bl b)
  | int (i : Int) : Rp κ G (.int i) (.int i)
  | str (w : List Nat) : Rp κ G (.str (S w)) (.str w)
  | lst {a : Addr} {xs : List V} {ds : List D} : G a = some (.lst xs) → RpA κ G xs ds → Rp κ G (.ref a) (.lst ds)
  | tup {a : Addr} {xs : List V} {ds : List D} : G a = some (.tup xs) → RpA κ G xs ds → Rp κ G (.ref a) (.tup ds)
  | ob {a dx : Addr} {c : Nat} {fs : List (Str × V)} {ds : List D} : G a = some (.ins (κ.cl c) dx fs) → fs.map Prod.fst = κ.fl c → RpA κ G (fs.map Prod.snd) ds → Rp κ G (.ref a) (.ob c ds)
  | scr {a : Addr} {ns : List Int} : SqL κ.K G a (ns.map V.int) → Rp κ G (.ref a) (.scr ns)
  | xn {o : Xo} {x : Ex} : XR κ G x o.cls o.d → Rp κ G (.ref o.a) (.xn o x)
inductive RpA (κ : Kx) (G : Hp) : List V → List D → Prop
  | nil : RpA κ G [] []
  | cons {v : V} {vs : List V} {d : D} {ds : List D} : Rp κ G v d → RpA κ G vs ds → RpA κ G (v :: vs) (d :: ds)
end

theorem same_rd {H H' : Hp} {a : Addr} {u : HO} (e : Same H H') (h : Rd H a u) : Rd H' a u := by
  rcases h with h | ⟨o, h⟩
  · exact Or.inl (e a _ h)
  · exact Or.inr ⟨o, e a _ h⟩
theorem same_l {K : PySem.W.Frag} {H H' : Hp} {a : Addr} {xs : List V} (e : Same H H') (h : SqL K H a xs) : SqL K H' a xs := h.imp (same_rd e) id
theorem same_t {K : PySem.W.Frag} {H H' : Hp} {a : Addr} {xs : List V} (e : Same H H') (h : SqT K H a xs) : SqT K H' a xs := h.imp (same_rd e) id

section
variable {κ : Kx} {G G' H H' : Hp}
theorem XR.mono (e : Same G G') {x : Ex} {c : Value} {d : Option Addr} (h : XR κ G x c d) : XR κ G' x c d := by
  refine ⟨h.1, ?_⟩
  have h2 := h.2
  split at h2
  · exact h2
  · obtain ⟨b, h3, h4⟩ := h2
    exact ⟨b, h3, e _ _ h4⟩
  · exact h2
mutual
theorem Rp.mono (e : Same G G') : ∀ {v : V} {d : D}, Rp κ G v d → Rp κ G' v d
  | _, _, .non => .non
  | _, _, .bl b => .bl b
  | _, _, .int i => .int i
  | _, _, .str w => .str w
  | _, _, .lst h t => .lst (e _ _ h) (RpA.mono e t)
  | _, _, .tup h t => .tup (e _ _ h) (RpA.mono e t)
  | _, _, .scr h => .scr (same_l e h)
  | _, _, .xn h => .xn (h.mono e)
  | _, _, .ob h1 h2 t => .ob (e _ _ h1) h2 (RpA.mono e t)
theorem RpA.mono (e : Same G G') : ∀ {vs : List V} {ds : List D}, RpA κ G vs ds → RpA κ G' vs ds
  | _, _, .nil => .nil
  | _, _, .cons h t => .cons (Rp.mono e h) (RpA.mono e t)
end
theorem RpA.length : ∀ {vs : List V} {ds : List D}, RpA κ G vs ds → vs.length = ds.length
  | _, _, .nil => rfl
  | _, _, .cons _ t => by simp [RpA.length t]
theorem RpA.get : ∀ {vs : List V} {ds : List D} {i : Nat} {v : V}, RpA κ G vs ds → vs[i]? = some v → ∃ d, ds[i]? = some d ∧ Rp κ G v d
  | _, _, _, _, .nil, e => by simp at e
  | _, _, 0, _, .cons r _, e => by simp at e; subst e; exact ⟨_, rfl, r⟩
  | _, _, i + 1, v, .cons _ t, e => by
    obtain ⟨d, h1, h2⟩ := RpA.get (i := i) (v := v) t (by simpa using e)
    exact ⟨d, by simpa using h1, h2⟩
theorem RpA.getD : ∀ {vs : List V} {ds : List D} {i : Nat} {d : D}, RpA κ G vs ds → ds[i]? = some d → ∃ v, vs[i]? = some v ∧ Rp κ G v d
  | _, _, _, _, .nil, e => by simp at e
  | _, _, 0, _, .cons r _, e => by simp at e; subst e; exact ⟨_, rfl, r⟩
  | _, _, i + 1, v, .cons _ t, e => by
    obtain ⟨d, h1, h2⟩ := RpA.getD (i := i) (d := v) t (by simpa using e)
    exact ⟨d, by simpa using h1, h2⟩
theorem RpA.append : ∀ {vs us : List V} {ds es : List D}, RpA κ G vs ds → RpA κ G us es → RpA κ G (vs ++ us) (ds ++ es)
  | _, _, _, _, .nil, s => s
  | _, _, _, _, .cons r t, s => .cons r (RpA.append t s)
theorem RpA.take : ∀ {vs : List V} {ds : List D} (n : Nat), RpA κ G vs ds → RpA κ G (vs.take n) (ds.take n)
  | _, _, 0, _ => by simpa using RpA.nil
  | _, _, _ + 1, .nil => by simpa using RpA.nil
  | _, _, n + 1, .cons r t => .cons r (RpA.take n t)
theorem RpA.drop : ∀ {vs : List V} {ds : List D} (n : Nat), RpA κ G vs ds → RpA κ G (vs.drop n) (ds.drop n)
  | _, _, 0, r => r
  | _, _, _ + 1, .nil => by simpa using RpA.nil
  | _, _, n + 1, .cons _ t => RpA.drop n t
theorem RpA.set {v : V} {d : D} (r : Rp κ G v d) : ∀ {vs : List V} {ds : List D} (n : Nat), RpA κ G vs ds → RpA κ G (vs.set n v) (ds.set n d)
  | _, _, _, .nil => .nil
  | _, _, 0, .cons _ t => .cons r t
  | _, _, n + 1, .cons q t => .cons q (RpA.set r n t)
theorem RpA.rev : ∀ {vs : List V} {ds : List D}, RpA κ G vs ds → RpA κ G vs.reverse ds.reverse
  | _, _, .nil => .nil
  | _, _, .cons r t => by
    rw [List.reverse_cons, List.reverse_cons]
    exact (RpA.rev t).append (.cons r .nil)
theorem RpA.ints : ∀ ns : List Int, RpA κ G (ns.map V.int) (ns.map D.int)
  | [] => .nil
  | n :: r => .cons (.int n) (RpA.ints r)
theorem RpA.strs : ∀ ws : List (List Nat), RpA κ G (ws.map fun w => V.str (S w)) (ws.map D.str)
  | [] => .nil
  | n :: r => .cons (.str n) (RpA.strs r)
end

/-- a slot: nothing told; a value that all may hold; a list of the def's own (unlocked, locked by a loop); a list that is only read here -/
inductive Sl where
  | un | sh (d : D) | ow (l : List D) | lk (l : List D) | bo (l : List D)
abbrev En := List Sl

def Mt (σ : L2.St) (env : En) (a : Addr) : Prop := ∃ (i : Nat) (l : List D), σ[i]? = some (some (.ref a)) ∧ env[i]? = some (.ow l)
def Own (σ : L2.St) (env : En) (i : Nat) (a : Addr) : Prop := σ[i]? = some (some (.ref a)) ∧ ∃ l, env[i]? = some (.ow l) ∨ env[i]? = some (.lk l)
def RSl (κ : Kx) (H G : Hp) (v : Option (Option V)) : Sl → Prop
  | .un => True
  | .sh d => ∃ x, v = some (some x) ∧ Rp κ G x d
  | .ow l => ∃ a xs, v = some (some (.ref a)) ∧ H a = some (.lst xs) ∧ G a = none ∧ RpA κ G xs l
  | .lk l => ∃ a xs, v = some (some (.ref a)) ∧ H a = some (.lst xs) ∧ G a = none ∧ RpA κ G xs l
  | .bo l => ∃ a xs, v = some (some (.ref a)) ∧ H a = some (.lst xs) ∧ RpA κ G xs l
structure Rep (κ : Kx) (H G : Hp) (σ : L2.St) (env : En) : Prop where
  sub : Same G H
  len : σ.length = env.length
  slot : ∀ (i : Nat) (s : Sl), env[i]? = some s → RSl κ H G σ[i]? s
  inj : ∀ (i j : Nat) (a : Addr), Own σ env i a → Own σ env j a → i = j
  nbo : ∀ (i : Nat) (a : Addr), Own σ env i a → ∀ (j : Nat) (l : List D), σ[j]? = some (some (.ref a)) → env[j]? = some (.bo l) → False
def Sl.fix : Sl → Bool
  | .lk _ => true
  | .bo _ => true
  | _ => false
/-- a locked slot, and a list that is only read, stand as they were -/
def Lk (σ : L2.St) (env : En) (σ' : L2.St) (env' : En) : Prop := ∀ (i : Nat) (s : Sl), s.fix = true → env'[i]? = some s → env[i]? = some s ∧ σ'[i]? = σ[i]?
/-- only the def's own unlocked lists may have changed, what is shared stays shared; no old thing has become the def's own -/
structure Fr (H G : Hp) (σ : L2.St) (env : En) (H' G' : Hp) (σ' : L2.St) (env' : En) : Prop where
  hk : ∀ a o, H a = some o → ¬ Mt σ env a → H' a = some o
  gk : Same G G'
  gn : ∀ a o, H a = some o → G a = none → ¬ Mt σ env a → G' a = none
  mm : ∀ a o, H a = some o → Mt σ' env' a → Mt σ env a
  lk : Lk σ env σ' env'
/-- .. where the def ends -/
structure FrR (H G : Hp) (σ : L2.St) (env : En) (H' G' : Hp) : Prop where
  hk : ∀ a o, H a = some o → ¬ Mt σ env a → H' a = some o
  gk : Same G G'
  gn : ∀ a o, H a = some o → G a = none → ¬ Mt σ env a → G' a = none
theorem Lk.refl {σ : L2.St} {env : En} : Lk σ env σ env := fun _ _ _ h => ⟨h, rfl⟩
theorem Fr.refl {H G : Hp} {σ : L2.St} {env : En} : Fr H G σ env H G σ env := ⟨fun _ _ h _ => h, Same.refl _, fun _ _ _ h _ => h, fun _ _ _ h => h, Lk.refl⟩
theorem Fr.trans {H G H1 G1 H2 G2 : Hp} {σ σ1 σ2 : L2.St} {env env1 env2 : En} (x : Fr H G σ env H1 G1 σ1 env1) (y : Fr H1 G1 σ1 env1 H2 G2 σ2 env2) : Fr H G σ env H2 G2 σ2 env2 where
  hk := fun a o h n => y.hk a o (x.hk a o h n) fun m => n (x.mm a o h m)
  gk := x.gk.trans y.gk
  gn := fun a o h g n => y.gn a o (x.hk a o h n) (x.gn a o h g n) fun m => n (x.mm a o h m)
  mm := fun a o h m => by
    by_cases n : Mt σ env a
    · exact n
    · exact x.mm a o h (y.mm a o (x.hk a o h n) m)
  lk := fun i l z h => by
    obtain ⟨h1, e1⟩ := y.lk i l z h
    obtain ⟨h2, e2⟩ := x.lk i l z h1
    exact ⟨h2, e1.trans e2⟩
theorem Fr.toR {H G H1 G1 H2 G2 : Hp} {σ σ1 : L2.St} {env env1 : En} (x : Fr H G σ env H1 G1 σ1 env1) (y : FrR H1 G1 σ1 env1 H2 G2) : FrR H G σ env H2 G2 where
  hk := fun a o h n => y.hk a o (x.hk a o h n) fun m => n (x.mm a o h m)
  gk := x.gk.trans y.gk
  gn := fun a o h g n => y.gn a o (x.hk a o h n) (x.gn a o h g n) fun m => n (x.mm a o h m)
/-- nothing that stood has changed -/
theorem Fr.same {H G H' G' : Hp} {σ : L2.St} {env env' : En} (s : Same H H') (g : Same G G') (gn : ∀ a o, H a = some o → G a = none → ¬ Mt σ env a → G' a = none) (mm : ∀ a o, H a = some o → Mt σ env' a → Mt σ env a) (l : ∀ (i : Nat) (s : Sl), s.fix = true → env'[i]? = some s → env[i]? = some s) :
    Fr H G σ env H' G' σ env' := ⟨fun a o h _ => s a o h, g, gn, mm, fun i m z h => ⟨l i m z h, rfl⟩⟩

/-! ### results -/
inductive Rs where
  | sh (d : D) | ow (l : List D)
def Rs.d : Rs → D
  | .sh d => d
  | .ow l => .lst l
inductive Q (α : Type) where
  | ok (a : α) (e : En) | ex (x : Ex) (e : En)
abbrev Sm (α : Type) := En → Option (Q α)
def bnd {α β : Type} (m : Sm α) (f : α → Sm β) : Sm β := fun e => match m e with
  | none => none
  | some (.ok a e') => f a e'
  | some (.ex x e') => some (.ex x e')
def ret {α : Type} (a : α) : Sm α := fun e => some (.ok a e)

/-- how a reading's value stands for a result -/
abbrev Rl (α β : Type) := L2.St → (Addr → Prop) → Hp → Hp → En → β → α → Prop
def Fre (σ : L2.St) (env : En) (a : Addr) : Prop := (∀ i, ¬ Own σ env i a) ∧ ∀ (j : Nat) (l : List D), σ[j]? = some (some (.ref a)) → env[j]? = some (.bo l) → False
def RV (κ : Kx) : Rl Rs V := fun σ N H G env v r => match r with
  | .sh d => Rp κ G v d
  | .ow l => ∃ a xs, v = .ref a ∧ H a = some (.lst xs) ∧ G a = none ∧ RpA κ G xs l ∧ Fre σ env a ∧ N a
def RB (κ : Kx) : Rl D V := fun _ _ H G _ v d => Rp κ G v d ∨ ∃ a xs l, d = .lst l ∧ v = .ref a ∧ H a = some (.lst xs) ∧ RpA κ G xs l
def RT : Rl Bool Bool := fun _ _ _ _ _ b c => b = c
inductive RBs (κ : Kx) (H G : Hp) : List Bool → List V → List D → Prop
  | nil : RBs κ H G [] [] []
  | sh {ms : List Bool} {v : V} {vs : List V} {d : D} {ds : List D} : Rp κ G v d → RBs κ H G ms vs ds → RBs κ H G (false :: ms) (v :: vs) (d :: ds)
  | bo {ms : List Bool} {v : V} {vs : List V} {d : D} {ds : List D} : (Rp κ G v d ∨ ∃ a xs l, d = .lst l ∧ v = .ref a ∧ H a = some (.lst xs) ∧ RpA κ G xs l) → RBs κ H G ms vs ds → RBs κ H G (true :: ms) (v :: vs) (d :: ds)
def RA (κ : Kx) (ms : List Bool) : Rl (List D) (List V) := fun _ _ H G _ vs ds => RBs κ H G ms vs ds

class RlMono {α β : Type} (R : Rl α β) : Prop where
  mono : ∀ {σ : L2.St} {N N' : Addr → Prop} {H G : Hp} {env : En} {b : β} {a : α}, (∀ c, N c → N' c) → R σ N H G env b a → R σ N' H G env b a
instance {κ : Kx} : RlMono (RV κ) := ⟨fun {σ N N' H G env v r} h q => by
  cases r with
  | sh d => exact q
  | ow l =>
    obtain ⟨a, xs, h1, h2, h3, h4, h5, h6⟩ := q
    exact ⟨a, xs, h1, h2, h3, h4, h5, h _ h6⟩⟩
instance {κ : Kx} : RlMono (RB κ) := ⟨fun _ q => q⟩
instance : RlMono RT := ⟨fun _ q => q⟩
instance {κ : Kx} {ms : List Bool} : RlMono (RA κ ms) := ⟨fun _ q => q⟩

/-- fresh, or the def's own -/
def Nw (H : Hp) (σ : L2.St) (env : En) (a : Addr) : Prop := ∀ o, H a = some o → Mt σ env a
section
variable {α β : Type}
def EPost (κ : Kx) (W : WX) (R : Rl α β) (σ : L2.St) (H G : Hp) (env : En) (o : Option (Q α)) (P : β → Hp → Prop) : Prop := match o with
  | none => False
  | some (.ok a env') => ∀ v H' G', Rep κ H' G' σ env' → R σ (Nw H σ env) H' G' env' v a → Same H H' → Fr H G σ env H' G' σ env' → P v H'
  | some (.ex x env') => ∀ c d H' G', Rep κ H' G' σ env' → XR κ G' x c d → Same H H' → Fr H G σ env H' G' σ env' → W c d σ H'
/-- the reading of a plain function -/
def tX (κ : Kx) (W : WX) (R : Rl α β) (m : Sm α) : L2.St → Hp → (β → Hp → Prop) → Prop := fun σ H P => ∃ G env, Rep κ H G σ env ∧ EPost κ W R σ H G env (m env) P
variable {κ : Kx} {W : WX} {R : Rl α β} {σ : L2.St} {H G H1 G1 : Hp} {env env1 : En}
theorem EPost.mono {o : Option (Q α)} {P P' : β → Hp → Prop} (h : EPost κ W R σ H G env o P) (k : ∀ v H', P v H' → P' v H') : EPost κ W R σ H G env o P' := by
  cases o with
  | none => exact h
  | some q => cases q with
    | ok a e => exact fun v H' G' a b c d => k _ _ (h v H' G' a b c d)
    | ex x e => exact h
theorem tX.mono {m : Sm α} {P P' : β → Hp → Prop} (h : tX κ W R m σ H P) (k : ∀ v H', P v H' → P' v H') : tX κ W R m σ H P' := by
  obtain ⟨G, env, r, q⟩ := h
  exact ⟨G, env, r, q.mono k⟩
theorem EPost.shift [RlMono R] {o : Option (Q α)} {P : β → Hp → Prop} (s : Same H H1) (f : Fr H G σ env H1 G1 σ env1) (h : EPost κ W R σ H G env o P) : EPost κ W R σ H1 G1 env1 o P := by
  cases o with
  | none => exact h
  | some q => cases q with
    | ok a e => exact fun v H' G' r1 r2 s2 f2 => h v H' G' r1 (RlMono.mono (fun c n o e => f.mm c o e (n o (s c o e))) r2) (s.trans s2) (f.trans f2)
    | ex x e => exact fun c d H' G' r1 r2 s2 f2 => h c d H' G' r1 r2 (s.trans s2) (f.trans f2)
end
/-- two in a row -/
theorem bind_post {α β γ δ : Type} {κ : Kx} {W : WX} {R : Rl α β} {R2 : Rl γ δ} [RlMono R2] {σ : L2.St} {H G : Hp} {env : En} {m : Sm α} {f : α → Sm γ} {P : δ → Hp → Prop} (r : Rep κ H G σ env) (h : EPost κ W R2 σ H G env (bnd m f env) P)
    {P' : β → Hp → Prop} (k : ∀ a env1 v H1 G1, m env = some (.ok a env1) → Rep κ H1 G1 σ env1 → R σ (Nw H σ env) H1 G1 env1 v a → Same H H1 → Fr H G σ env H1 G1 σ env1 → EPost κ W R2 σ H1 G1 env1 (f a env1) P → P' v H1) :
    tX κ W R m σ H P' := by
  refine ⟨G, env, r, ?_⟩
  unfold bnd at h
  cases e : m env with
  | none => rw [e] at h; exact h
  | some q => cases q with
    | ok a e1 =>
      rw [e] at h
      exact fun v H1 G1 r1 r2 s2 f2 => k a e1 v H1 G1 e r1 r2 s2 f2 (EPost.shift s2 f2 h)
    | ex x e1 =>
      rw [e] at h
      exact h

/-! ### statements -/
inductive SO where
  | nx (e : En) | bk (e : En) | ct (e : En) | rt (r : Rs) | ex (x : Ex) (e : En)
abbrev Ss := En → Option SO
/-- a def hands back -/
def RR (κ : Kx) (N : Addr → Prop) (H G : Hp) (v : V) : Rs → Prop
  | .sh d => Rp κ G v d
  | .ow l => ∃ a xs, v = .ref a ∧ H a = some (.lst xs) ∧ G a = none ∧ RpA κ G xs l ∧ N a
def SPost (κ : Kx) (W : WX) (σ : L2.St) (H G : Hp) (env : En) (o : Option SO) (D : Ends) : Prop := match o with
  | none => False
  | some (.nx env') => ∀ σ' H' G', Rep κ H' G' σ' env' → Fr H G σ env H' G' σ' env' → D.nx σ' H'
  | some (.bk env') => ∀ σ' H' G', Rep κ H' G' σ' env' → Fr H G σ env H' G' σ' env' → D.bk σ' H'
  | some (.ct env') => ∀ σ' H' G', Rep κ H' G' σ' env' → Fr H G σ env H' G' σ' env' → D.ct σ' H'
  | some (.rt r) => ∀ v H' G', Same G' H' → RR κ (Nw H σ env) H' G' v r → FrR H G σ env H' G' → D.rt v H'
  | some (.ex x env') => ∀ c d σ' H' G', Rep κ H' G' σ' env' → XR κ G' x c d → Fr H G σ env H' G' σ' env' → W c d σ' H'
def tS (κ : Kx) (W : WX) (m : Ss) : TS := fun D σ H => ∃ G env, Rep κ H G σ env ∧ SPost κ W σ H G env (m env) D
section
variable {κ : Kx} {W : WX} {σ σ1 : L2.St} {H G H1 G1 : Hp} {env env1 : En} {D D' : Ends}
theorem RR.mono {N N' : Addr → Prop} {v : V} {r : Rs} (h : ∀ c, N c → N' c) (q : RR κ N H G v r) : RR κ N' H G v r := by
  cases r with
  | sh d => exact q
  | ow l =>
    obtain ⟨a, xs, h1, h2, h3, h4, h5⟩ := q
    exact ⟨a, xs, h1, h2, h3, h4, h _ h5⟩
theorem SPost.mono {o : Option SO} (h : SPost κ W σ H G env o D) (k1 : ∀ s h, D.nx s h → D'.nx s h) (k2 : ∀ s h, D.bk s h → D'.bk s h) (k3 : ∀ s h, D.ct s h → D'.ct s h) (k4 : ∀ s h, D.rt s h → D'.rt s h) : SPost κ W σ H G env o D' := by
  cases o with
  | none => exact h
  | some q => cases q with
    | nx e => exact fun σ' H' G' a b => k1 _ _ (h σ' H' G' a b)
    | bk e => exact fun σ' H' G' a b => k2 _ _ (h σ' H' G' a b)
    | ct e => exact fun σ' H' G' a b => k3 _ _ (h σ' H' G' a b)
    | rt r => exact fun v H' G' a b c => k4 _ _ (h v H' G' a b c)
    | ex x e => exact h
theorem Nw.shift (f : Fr H G σ env H1 G1 σ1 env1) {c : Addr} (n : Nw H1 σ1 env1 c) : Nw H σ env c := fun o e => by
  by_cases m : Mt σ env c
  · exact m
  · exact f.mm c o e (n o (f.hk c o e m))
theorem SPost.shift {o : Option SO} (f : Fr H G σ env H1 G1 σ1 env1) (h : SPost κ W σ H G env o D) : SPost κ W σ1 H1 G1 env1 o D := by
  cases o with
  | none => exact h
  | some q => cases q with
    | nx e => exact fun σ' H' G' a b => h σ' H' G' a (f.trans b)
    | bk e => exact fun σ' H' G' a b => h σ' H' G' a (f.trans b)
    | ct e => exact fun σ' H' G' a b => h σ' H' G' a (f.trans b)
    | rt r => exact fun v H' G' a b c => h v H' G' a (b.mono fun _ n => n.shift f) (f.toR c)
    | ex x e => exact fun c d σ' H' G' a b g => h c d σ' H' G' a b (f.trans g)
end
/-- an expression in a statement -/
def sbnd {α : Type} (m : Sm α) (f : α → Ss) : Ss := fun e => match m e with
  | none => none
  | some (.ok a e') => f a e'
  | some (.ex x e') => some (.ex x e')
theorem sbind_post {α β : Type} {κ : Kx} {W : WX} {R : Rl α β} {σ : L2.St} {H G : Hp} {env : En} {m : Sm α} {f : α → Ss} {D : Ends} (r : Rep κ H G σ env) (h : SPost κ W σ H G env (sbnd m f env) D)
    {P' : β → Hp → Prop} (k : ∀ a env1 v H1 G1, m env = some (.ok a env1) → Rep κ H1 G1 σ env1 → R σ (Nw H σ env) H1 G1 env1 v a → Same H H1 → Fr H G σ env H1 G1 σ env1 → SPost κ W σ H1 G1 env1 (f a env1) D → P' v H1) :
    tX κ W R m σ H P' := by
  refine ⟨G, env, r, ?_⟩
  unfold sbnd at h
  cases e : m env with
  | none => rw [e] at h; exact h
  | some q => cases q with
    | ok a e1 =>
      rw [e] at h
      exact fun v H1 G1 r1 r2 s2 f2 => k a e1 v H1 G1 e r1 r2 s2 f2 (SPost.shift f2 h)
    | ex x e1 =>
      rw [e] at h
      exact fun c d H' G' a b _ g => h c d σ H' G' a b g

/-! ### heaps and slots -/
section
variable {κ : Kx} {W : WX} {σ : L2.St} {H G H' G' : Hp} {env : En} {p : Addr} {xs : List V} {l : List D}
theorem Rep.grow (r : Rep κ H G σ env) (h : Same H H') (g : Same G G') (s : Same G' H') (o : ∀ i a, Own σ env i a → G' a = none) : Rep κ H' G' σ env where
  sub := s
  len := r.len
  slot := fun i s e => by
    have q := r.slot i s e
    cases s with
    | un => trivial
    | sh d =>
      obtain ⟨x, h1, h2⟩ := q
      exact ⟨x, h1, h2.mono g⟩
    | ow l =>
      obtain ⟨a, xs, h1, h2, h3, h4⟩ := q
      exact ⟨a, xs, h1, h a _ h2, o i a ⟨h1, l, .inl e⟩, h4.mono g⟩
    | lk l =>
      obtain ⟨a, xs, h1, h2, h3, h4⟩ := q
      exact ⟨a, xs, h1, h a _ h2, o i a ⟨h1, l, .inr e⟩, h4.mono g⟩
    | bo l =>
      obtain ⟨a, xs, h1, h2, h4⟩ := q
      exact ⟨a, xs, h1, h a _ h2, h4.mono g⟩
  inj := r.inj
  nbo := r.nbo
theorem Rep.own (r : Rep κ H G σ env) {i : Nat} {a : Addr} (o : Own σ env i a) : (∃ xs, H a = some (.lst xs)) ∧ G a = none := by
  obtain ⟨e, l, h | h⟩ := o
  · obtain ⟨b, xs, h1, h2, h3, _⟩ := r.slot i _ h
    rw [e] at h1
    cases h1
    exact ⟨⟨xs, h2⟩, h3⟩
  · obtain ⟨b, xs, h1, h2, h3, _⟩ := r.slot i _ h
    rw [e] at h1
    cases h1
    exact ⟨⟨xs, h2⟩, h3⟩
theorem Rep.lock {i : Nat} {a : Addr} (m : Mt σ env a) : ∃ i, Own σ env i a := by
  obtain ⟨i, l, h1, h2⟩ := m
  exact ⟨i, h1, l, .inl h2⟩
theorem Rep.fre (r : Rep κ H G σ env) (hp : H p = none) : Fre σ env p := by
  refine ⟨fun i o => ?_, fun j l e1 e2 => ?_⟩
  · obtain ⟨⟨xs, h⟩, _⟩ := r.own o
    rw [hp] at h
    cases h
  · obtain ⟨a, xs, h1, h2, h3⟩ := r.slot j _ e2
    rw [e1] at h1
    cases h1
    rw [hp] at h2
    cases h2
theorem same_new {H : Hp} {p : Addr} {o : HO} (h : H p = none) : Same H (upd H p o) := fun a u e => by
  rw [upd_ne (ne_of_none e h)]
  exact e
theorem same_upd {G H : Hp} {p : Addr} {o : HO} (s : Same G H) (h : G p = none) : Same G (upd H p o) := fun a u e => by
  rw [upd_ne (ne_of_none e h)]
  exact s a u e
theorem same_both {G H : Hp} {p : Addr} {o : HO} (s : Same G H) : Same (upd G p o) (upd H p o) := fun a u e => by
  by_cases h : a = p
  · subst h; rw [upd_same] at e ⊢; exact e
  · rw [upd_ne h] at e ⊢; exact s a u e
theorem Same.none {G H : Hp} {p : Addr} (s : Same G H) (h : H p = none) : G p = none := by
  cases q : G p with
  | none => rfl
  | some o => rw [s p o q] at h; cases h
/-- what stands at the end of a reading's last step -/
structure Stp (κ : Kx) (σ : L2.St) (env : En) (H G H' G' : Hp) : Prop where
  rep : Rep κ H' G' σ env
  same : Same H H'
  fr : Fr H G σ env H' G' σ env
theorem Stp.refl (r : Rep κ H G σ env) : Stp κ σ env H G H G := ⟨r, Same.refl _, Fr.refl⟩
theorem fr_upd {o : HO} (hp : H p = none) : Fr H G σ env (upd H p o) G σ env := Fr.same (same_new hp) (Same.refl _) (fun _ _ _ h _ => h) (fun _ _ _ h => h) fun _ _ _ h => h
/-- a new list of the def's own -/
theorem new_ow (r : Rep κ H G σ env) (hp : H p = none) (h : RpA κ G xs l) : Stp κ σ env H G (upd H p (.lst xs)) G ∧ RV κ σ (Nw H σ env) (upd H p (.lst xs)) G env (.ref p) (.ow l) := by
  have gp := Same.none r.sub hp
  refine ⟨⟨r.grow (same_new hp) (Same.refl _) (same_upd r.sub gp) fun i a o => (r.own o).2, same_new hp, fr_upd hp⟩, p, xs, rfl, upd_same, gp, h, r.fre hp, fun o e => ?_⟩
  rw [hp] at e
  cases e
/-- a new thing that all may hold -/
theorem new_sh {o : HO} (r : Rep κ H G σ env) (hp : H p = none) : Stp κ σ env H G (upd H p o) (upd G p o) := by
  have gp := Same.none r.sub hp
  refine ⟨r.grow (same_new hp) (same_new gp) (same_both r.sub) fun i a q => ?_, same_new hp, Fr.same (same_new hp) (same_new gp) (fun a u h g _ => ?_) (fun _ _ _ h => h) fun _ _ _ h => h⟩
  · obtain ⟨⟨xs, h⟩, g⟩ := r.own q
    rw [upd_ne (ne_of_none h hp)]
    exact g
  · rw [upd_ne (ne_of_none h hp)]
    exact g
/-- a list that the def gives away -/
theorem freeze {H0 G0 : Hp} {σ0 : L2.St} {env0 : En} {a : Addr} (r : Rep κ H G σ env) (ha : H a = some (.lst xs)) (hg : G a = none) (h : RpA κ G xs l) (f : Fre σ env a) (n : ∀ o, H0 a = some o → Mt σ0 env0 a) (fr : Fr H0 G0 σ0 env0 H G σ env) :
    Rep κ H (upd G a (.lst xs)) σ env ∧ Rp κ (upd G a (.lst xs)) (.ref a) (.lst l) ∧ Fr H0 G0 σ0 env0 H (upd G a (.lst xs)) σ env := by
  have sg : Same G (upd G a (.lst xs)) := same_new hg
  refine ⟨r.grow (Same.refl _) sg (fun b u e => ?_) fun i b o => ?_, .lst upd_same (h.mono sg), fr.hk, fr.gk.trans sg, fun b o e g m => ?_, fr.mm, fr.lk⟩
  · by_cases q : b = a
    · subst q; rw [upd_same] at e; cases e; exact ha
    · rw [upd_ne q] at e; exact r.sub b u e
  · have q : b ≠ a := fun z => f.1 i (z ▸ o)
    rw [upd_ne q]
    exact (r.own o).2
  · have q : b ≠ a := fun z => m (z ▸ n o (z ▸ e))
    rw [upd_ne q]
    exact fr.gn b o e g m
end
/-- .. as a value that all may hold -/
def RP (κ : Kx) : Rl D V := fun _ _ _ G _ v d => Rp κ G v d
instance {κ : Kx} : RlMono (RP κ) := ⟨fun _ q => q⟩
def frz (m : Sm Rs) : Sm D := fun e => match m e with
  | none => none
  | some (.ok r e') => some (.ok r.d e')
  | some (.ex x e') => some (.ex x e')
section
variable {X : Cx} {κ : Kx} {W : WX} {e : Expr}
theorem PE.imp {t t' : TE} (h : PE X e t) (k : ∀ σ H Q, t' σ H Q → t σ H Q) : PE X e t' := ⟨fun pins s σ H Q I q => h.run pins s σ H Q I (k σ H Q q)⟩
theorem PT.imp {t t' : TT} (h : PT X e t) (k : ∀ σ H Q, t' σ H Q → t σ H Q) : PT X e t' := ⟨fun pins s σ H Q I q => h.run pins s σ H Q I (k σ H Q q)⟩
theorem PW.imp {t t' : TT} (h : PW X e t) (k : ∀ σ H Q, t' σ H Q → t σ H Q) : PW X e t' := ⟨fun wh pins s σ H Q I q => h.run wh pins s σ H Q I (k σ H Q q)⟩
theorem PA.imp {es : List Expr} {t t' : TA} (h : PA X es t) (k : ∀ σ H Q, t' σ H Q → t σ H Q) : PA X es t' := ⟨fun pos pins s σ H Q I q => h.run pos pins s σ H Q I (k σ H Q q)⟩
theorem PS.imp {st : Stmt} {t t' : TS} (h : PS X st t) (k : ∀ D σ H, t' D σ H → t D σ H) : PS X st t' := ⟨fun pins s σ H D I q => h.run pins s σ H D I (k D σ H q)⟩
theorem PSs.imp {st : List Stmt} {t t' : TS} (h : PSs X st t) (k : ∀ D σ H, t' D σ H → t D σ H) : PSs X st t' := ⟨fun pins s σ H D I q => h.run pins s σ H D I (k D σ H q)⟩
/-- a value, given away -/
theorem v_frz {m : Sm Rs} (h : PE X e (tX κ W (RV κ) m)) : PE X e (tX κ W (RP κ) (frz m)) := PE.imp h fun σ H Q ⟨G, env, r, q⟩ => by
  refine ⟨G, env, r, ?_⟩
  unfold frz at q
  cases z : m env with
  | none => rw [z] at q; exact q
  | some y => cases y with
    | ex x e1 => rw [z] at q; exact q
    | ok a e1 =>
      rw [z] at q
      cases a with
      | sh d => exact q
      | ow l =>
        rintro v H1 G1 r1 ⟨a, xs, rfl, h2, h3, h4, h5, h6⟩ s1 f1
        obtain ⟨g1, g2, g3⟩ := freeze r1 h2 h3 h4 h5 h6 f1
        exact q _ H1 _ g1 g2 s1 g3
theorem v_bo {m : Sm D} (h : PE X e (tX κ W (RP κ) m)) : PE X e (tX κ W (RB κ) m) := PE.imp h fun σ H Q ⟨G, env, r, q⟩ => by
  refine ⟨G, env, r, ?_⟩
  cases z : m env with
  | none => rw [z] at q; exact q
  | some y => cases y with
    | ex x e1 => rw [z] at q; exact q
    | ok a e1 =>
      rw [z] at q
      exact fun v H1 G1 r1 r2 s1 f1 => q v H1 G1 r1 (.inl r2) s1 f1
def shm (m : Sm D) : Sm Rs := fun e => match m e with
  | none => none
  | some (.ok d e') => some (.ok (.sh d) e')
  | some (.ex x e') => some (.ex x e')
theorem v_sh {m : Sm D} (h : PE X e (tX κ W (RP κ) m)) : PE X e (tX κ W (RV κ) (shm m)) := PE.imp h fun σ H Q ⟨G, env, r, q⟩ => by
  refine ⟨G, env, r, ?_⟩
  unfold shm at q
  cases z : m env with
  | none => rw [z] at q; exact q
  | some y => cases y with
    | ex x e1 => rw [z] at q; exact q
    | ok a e1 => rw [z] at q; exact q
/-! ### names and constants -/
/-- a name that is only looked at -/
def eB (i : Nat) : Sm D := fun env => match env[i]? with
  | some (.sh d) => some (.ok d env)
  | some (.ow l) => some (.ok (.lst l) env)
  | some (.lk l) => some (.ok (.lst l) env)
  | some (.bo l) => some (.ok (.lst l) env)
  | _ => none
/-- a name whose value is given away -/
def eV (i : Nat) : Sm D := fun env => match env[i]? with
  | some (.sh d) => some (.ok d env)
  | some (.ow l) => some (.ok (.lst l) (env.set i (.sh (.lst l))))
  | _ => none
def eC (d : D) : Sm D := fun env => some (.ok d env)
theorem b_var {i : Nat} {x : Str} {pos : Pos} (h : PE X (.Name x pos) (tVar i)) : PE X (.Name x pos) (tX κ W (RB κ) (eB i)) := PE.imp h fun σ H Q ⟨G, env, r, q⟩ => by
  unfold eB at q
  cases z : env[i]? with
  | none => rw [z] at q; exact q.elim
  | some s =>
    have rs := r.slot i s z
    rw [z] at q
    cases s with
    | un => exact q.elim
    | sh d =>
      obtain ⟨v, h1, h2⟩ := rs
      exact ⟨v, h1, q v H G r (.inl h2) (Same.refl _) Fr.refl⟩
    | ow l =>
      obtain ⟨a, xs, h1, h2, h3, h4⟩ := rs
      exact ⟨_, h1, q _ H G r (.inr ⟨a, xs, l, rfl, rfl, h2, h4⟩) (Same.refl _) Fr.refl⟩
    | lk l =>
      obtain ⟨a, xs, h1, h2, h3, h4⟩ := rs
      exact ⟨_, h1, q _ H G r (.inr ⟨a, xs, l, rfl, rfl, h2, h4⟩) (Same.refl _) Fr.refl⟩
    | bo l =>
      obtain ⟨a, xs, h1, h2, h4⟩ := rs
      exact ⟨_, h1, q _ H G r (.inr ⟨a, xs, l, rfl, rfl, h2, h4⟩) (Same.refl _) Fr.refl⟩
end
section
variable {κ : Kx} {σ : L2.St} {H G : Hp} {env : En}
theorem shno {d : D} (l : List D) : Sl.sh d ≠ .ow l ∧ Sl.sh d ≠ .lk l := And.intro (fun z => nomatch z) (fun z => nomatch z)
/-- a slot told otherwise, as one that all may hold or nothing -/
theorem own_set {i j : Nat} {a : Addr} {s : Sl} (hs : ∀ l, s ≠ .ow l ∧ s ≠ .lk l) (o : Own σ (env.set i s) j a) : j ≠ i ∧ Own σ env j a := by
  obtain ⟨e, l, h⟩ := o
  have q : i ≠ j := fun z => by
    subst z
    by_cases hl : i < env.length
    · rw [List.getElem?_set_self hl] at h
      rcases h with h | h
      · exact (hs l).1 (Option.some.inj h)
      · exact (hs l).2 (Option.some.inj h)
    · rw [List.getElem?_eq_none (by simpa using hl)] at h
      rcases h with h | h <;> cases h
  rw [List.getElem?_set_ne q] at h
  exact ⟨q.symm, e, l, h⟩
theorem mt_set {i : Nat} {a : Addr} {s : Sl} (hs : ∀ l, s ≠ .ow l) (m : Mt σ (env.set i s) a) : Mt σ env a := by
  obtain ⟨j, l, e, h⟩ := m
  have q : i ≠ j := fun z => by
    subst z
    by_cases hl : i < env.length
    · rw [List.getElem?_set_self hl] at h
      exact hs l (Option.some.inj h)
    · rw [List.getElem?_eq_none (by simpa using hl)] at h
      cases h
  rw [List.getElem?_set_ne q] at h
  exact ⟨j, l, e, h⟩
/-- the own list at slot i, given away -/
theorem Rep.give {i : Nat} {l : List D} (r : Rep κ H G σ env) (e : env[i]? = some (.ow l)) : ∃ a xs, σ[i]? = some (some (.ref a)) ∧ Rep κ H (upd G a (.lst xs)) σ (env.set i (.sh (.lst l))) ∧ Rp κ (upd G a (.lst xs)) (.ref a) (.lst l) ∧
    Fr H G σ env H (upd G a (.lst xs)) σ (env.set i (.sh (.lst l))) := by
  obtain ⟨a, xs, h1, h2, h3, h4⟩ := r.slot i _ e
  have me : Own σ env i a := ⟨h1, l, .inl e⟩
  have sg : Same G (upd G a (.lst xs)) := same_new h3
  have hi : i < env.length := (List.getElem?_eq_some_iff.mp e).1
  have rp : Rp κ (upd G a (.lst xs)) (.ref a) (.lst l) := .lst upd_same (h4.mono sg)
  refine ⟨a, xs, h1, ⟨fun b u q => ?_, by rw [List.length_set]; exact r.len, fun j s q => ?_, fun j k b o1 o2 => ?_, fun j b o k m q1 q2 => ?_⟩, rp, Fr.same (Same.refl _) sg (fun b o q g m => ?_) (fun b o q m => mt_set (fun _ z => by cases z) m) fun j m hf q => ?_⟩
  · by_cases z : b = a
    · subst z; rw [upd_same] at q; cases q; exact h2
    · rw [upd_ne z] at q; exact r.sub b u q
  · by_cases z : i = j
    · subst z
      rw [List.getElem?_set_self hi] at q
      cases q
      exact ⟨_, h1, rp⟩
    · rw [List.getElem?_set_ne z] at q
      have t := r.slot j s q
      have far : ∀ {b : Addr}, σ[j]? = some (some (.ref b)) → (∃ l, env[j]? = some (.ow l) ∨ env[j]? = some (.lk l)) → b ≠ a := fun hb hl w => z (r.inj i j a me (w ▸ ⟨hb, hl⟩))
      cases s with
      | un => trivial
      | sh d =>
        obtain ⟨x, t1, t2⟩ := t
        exact ⟨x, t1, t2.mono sg⟩
      | ow m =>
        obtain ⟨b, ys, t1, t2, t3, t4⟩ := t
        exact ⟨b, ys, t1, t2, by rw [upd_ne (far t1 ⟨m, .inl q⟩)]; exact t3, t4.mono sg⟩
      | lk m =>
        obtain ⟨b, ys, t1, t2, t3, t4⟩ := t
        exact ⟨b, ys, t1, t2, by rw [upd_ne (far t1 ⟨m, .inr q⟩)]; exact t3, t4.mono sg⟩
      | bo m =>
        obtain ⟨b, ys, t1, t2, t4⟩ := t
        exact ⟨b, ys, t1, t2, t4.mono sg⟩
  · exact r.inj j k b (own_set shno o1).2 (own_set shno o2).2
  · have z : i ≠ k := fun z => by
      subst z
      rw [List.getElem?_set_self hi] at q2
      cases q2
    rw [List.getElem?_set_ne z] at q2
    exact r.nbo j b (own_set shno o).2 k m q1 q2
  · have z : b ≠ a := fun z => m ⟨i, l, z ▸ h1, e⟩
    rw [upd_ne z]
    exact g
  · have z : i ≠ j := fun z => by
      subst z
      rw [List.getElem?_set_self hi] at q
      cases q
      cases hf
    rw [List.getElem?_set_ne z] at q
    exact q
end
section
variable {X : Cx} {κ : Kx} {W : WX} {e : Expr}
theorem v_var {i : Nat} {x : Str} {pos : Pos} (h : PE X (.Name x pos) (tVar i)) : PE X (.Name x pos) (tX κ W (RP κ) (eV i)) := PE.imp h fun σ H Q ⟨G, env, r, q⟩ => by
  unfold eV at q
  cases z : env[i]? with
  | none => rw [z] at q; exact q.elim
  | some s =>
    have rs := r.slot i s z
    rw [z] at q
    cases s with
    | un => exact q.elim
    | sh d =>
      obtain ⟨v, h1, h2⟩ := rs
      exact ⟨v, h1, q v H G r h2 (Same.refl _) Fr.refl⟩
    | ow l =>
      obtain ⟨a, xs, g1, g2, g3, g4⟩ := r.give z
      exact ⟨_, g1, q _ H _ g2 g3 (Same.refl _) g4⟩
    | lk l => exact q.elim
    | bo l => exact q.elim
theorem v_const {v : V} {d : D} (h : PE X e (tC v)) (r0 : ∀ G, Rp κ G v d) : PE X e (tX κ W (RP κ) (eC d)) := PE.imp h fun σ H Q ⟨G, env, r, q⟩ => q v H G r (r0 G) (Same.refl _) Fr.refl
theorem v_int {i : Int} {j : Nat} {pos : Pos} : PE X (.Constant (.int i) j pos) (tX κ W (RP κ) (eC (.int i))) := v_const pe_int fun _ => .int i
theorem v_bl {b : Bool} {j : Nat} {pos : Pos} : PE X (.Constant (.bool b) j pos) (tX κ W (RP κ) (eC (.bl b))) := v_const pe_bl fun _ => .bl b
theorem v_non {j : Nat} {pos : Pos} : PE X (.Constant .none j pos) (tX κ W (RP κ) (eC .non)) := v_const pe_non fun _ => .non
theorem v_str {x : Str} {j : Nat} {pos : Pos} {w : List Nat} (h : x = S w) : PE X (.Constant (.str x) j pos) (tX κ W (RP κ) (eC (.str w))) := v_const pe_str fun _ => h ▸ .str w
end

/-! ### operators -/
def fOp {γ : Type} (f : D → D → Option γ) (ma mb : Sm D) : Sm γ := bnd ma fun x => bnd mb fun y => fun e => match f x y with
  | some z => some (.ok z e)
  | none => none
def RBq (κ : Kx) (H G : Hp) (v : V) (d : D) : Prop := Rp κ G v d ∨ ∃ a xs l, d = .lst l ∧ v = .ref a ∧ H a = some (.lst xs) ∧ RpA κ G xs l
section
variable {κ : Kx} {H G H' G' : Hp} {v : V} {d : D}
theorem RBq.mono (h : Same H H') (g : Same G G') (r : RBq κ H G v d) : RBq κ H' G' v d := by
  rcases r with r | ⟨a, xs, l, h1, h2, h3, h4⟩
  · exact .inl (r.mono g)
  · exact .inr ⟨a, xs, l, h1, h2, h a _ h3, h4.mono g⟩
theorem RBq.int {i : Int} (r : RBq κ H G v (.int i)) : v = .int i := by
  rcases r with r | ⟨a, xs, l, h1, _⟩
  · cases r; rfl
  · cases h1
theorem RBq.bl {i : Bool} (r : RBq κ H G v (.bl i)) : v = .bl i := by
  rcases r with r | ⟨a, xs, l, h1, _⟩
  · cases r; rfl
  · cases h1
theorem RBq.non (r : RBq κ H G v .non) : v = .non := by
  rcases r with r | ⟨a, xs, l, h1, _⟩
  · cases r; rfl
  · cases h1
theorem RBq.str {w : List Nat} (r : RBq κ H G v (.str w)) : v = .str (S w) := by
  rcases r with r | ⟨a, xs, l, h1, _⟩
  · cases r; rfl
  · cases h1
theorem RBq.lst {l : List D} (s : Same G H) (r : RBq κ H G v (.lst l)) : ∃ a xs, v = .ref a ∧ H a = some (.lst xs) ∧ RpA κ G xs l := by
  rcases r with r | ⟨a, xs, l, h1, h2, h3, h4⟩
  · cases r with
    | lst h t => exact ⟨_, _, rfl, s _ _ h, t⟩
  · cases h1
    exact ⟨a, xs, h2, h3, h4⟩
theorem RBq.tup {l : List D} (s : Same G H) (r : RBq κ H G v (.tup l)) : ∃ a xs, v = .ref a ∧ H a = some (.tup xs) ∧ RpA κ G xs l := by
  rcases r with r | ⟨a, xs, l, h1, h2, h3, h4⟩
  · cases r with
    | tup h t => exact ⟨_, _, rfl, s _ _ h, t⟩
  · cases h1
theorem RBq.scr {l : List Int} (s : Same G H) (r : RBq κ H G v (.scr l)) : ∃ a, v = .ref a ∧ SqL κ.K H a (l.map V.int) := by
  rcases r with r | ⟨a, xs, l, h1, h2, h3, h4⟩
  · cases r with
    | scr h => exact ⟨_, rfl, same_l s h⟩
  · cases h1
theorem RBq.ob {c : Nat} {l : List D} (s : Same G H) (r : RBq κ H G v (.ob c l)) : ∃ a dx fs, v = .ref a ∧ H a = some (.ins (κ.cl c) dx fs) ∧ fs.map Prod.fst = κ.fl c ∧ RpA κ G (fs.map Prod.snd) l := by
  rcases r with r | ⟨a, xs, l, h1, h2, h3, h4⟩
  · cases r with
    | ob h1 h2 t => exact ⟨_, _, _, rfl, s _ _ h1, h2, t⟩
  · cases h1
end
/-- the end: a value that is no list, nothing made -/
theorem post_sh {κ : Kx} {W : WX} {σ : L2.St} {H G : Hp} {env : En} {d : D} {Q : VK} {v : V} (r : Rep κ H G σ env) (h : Rp κ G v d) (q : EPost κ W (RV κ) σ H G env (some (.ok (.sh d) env)) Q) : Q v H := q v H G r h (Same.refl _) Fr.refl
theorem post_tt {κ : Kx} {W : WX} {σ : L2.St} {H G : Hp} {env : En} {b : Bool} {Q : Bool → Hp → Prop} (r : Rep κ H G σ env) (q : EPost κ W RT σ H G env (some (.ok b env)) Q) : Q b H := q b H G r rfl (Same.refl _) Fr.refl
theorem post_ow {κ : Kx} {W : WX} {σ : L2.St} {H G : Hp} {env : En} {l : List D} {xs : List V} {Q : VK} {p : Addr} (r : Rep κ H G σ env) (hp : H p = none) (h : RpA κ G xs l) (q : EPost κ W (RV κ) σ H G env (some (.ok (.ow l) env)) Q) : Q (.ref p) (upd H p (.lst xs)) := by
  obtain ⟨s, v⟩ := new_ow r hp h
  exact q _ _ G s.rep v s.same s.fr
theorem post_tup {κ : Kx} {W : WX} {σ : L2.St} {H G : Hp} {env : En} {l : List D} {xs : List V} {Q : VK} {p : Addr} (r : Rep κ H G σ env) (hp : H p = none) (h : RpA κ G xs l) (q : EPost κ W (RV κ) σ H G env (some (.ok (.sh (.tup l)) env)) Q) : Q (.ref p) (upd H p (.tup xs)) := by
  have s := new_sh (o := .tup xs) r hp
  exact q _ _ _ s.rep (.tup upd_same (h.mono (same_new (Same.none r.sub hp)))) s.same s.fr
/-- an operator's reading serves its function -/
def OpV (κ : Kx) (r : R2) (f : D → D → Option Rs) : Prop := ∀ (W : WX) (σ : L2.St) (x y : V) (dx dy : D) (z : Rs) (H G : Hp) (env : En) (Q : VK), f dx dy = some z → Rep κ H G σ env → RBq κ H G x dx → RBq κ H G y dy → EPost κ W (RV κ) σ H G env (some (.ok z env)) Q → r x y H Q
def OpB (κ : Kx) (r : R2) (f : D → D → Option Bool) : Prop := ∀ (x y : V) (dx dy : D) (z : Bool) (H G : Hp) (Q : VK), f dx dy = some z → Same G H → RBq κ H G x dx → RBq κ H G y dy → Q (.bl z) H → r x y H Q
section
variable {X : Cx} {κ : Kx} {W : WX} {a b c : Expr} {ma mb mc : Sm D} {pos : Pos}
theorem op_tr {γ δ : Type} {R' : Rl γ δ} [RlMono R'] {f : D → D → Option γ} {σ : L2.St} {H : Hp} {P : δ → Hp → Prop} {r : R2} {Q : VK}
    (hs : ∀ x y dx dy z H G env, f dx dy = some z → Rep κ H G σ env → RBq κ H G x dx → RBq κ H G y dy → EPost κ W R' σ H G env (some (.ok z env)) P → r x y H Q)
    (h : tX κ W R' (fOp f ma mb) σ H P) : tOp r (tX κ W (RB κ) ma) (tX κ W (RB κ) mb) σ H Q := by
  obtain ⟨G, env, rp, q⟩ := h
  refine bind_post rp q fun dx e1 x H1 G1 _ rp1 rx s1 f1 q1 => ?_
  refine bind_post rp1 q1 fun dy e2 y H2 G2 _ rp2 ry s2 f2 q2 => ?_
  cases z : f dx dy with
  | none => rw [z] at q2; exact q2.elim
  | some w => rw [z] at q2; exact hs x y dx dy w H2 G2 e2 z rp2 (RBq.mono s2 f2.gk rx) ry q2
theorem v_op {op : Operator} {r : R2} {f : D → D → Option Rs} (ho : OpR X (binaryOp op) r) (hs : OpV κ r f) (ha : PE X a (tX κ W (RB κ) ma)) (hb : PE X b (tX κ W (RB κ) mb)) : PE X (.BinOp a op b pos) (tX κ W (RV κ) (fOp f ma mb)) :=
  PE.imp (pe_op ho ha hb) fun σ H Q h => op_tr (fun x y dx dy z H G env e r rx ry q => hs W σ x y dx dy z H G env Q e r rx ry q) h
/-- a comparison as a value -/
def vB (f : D → D → Option Bool) : D → D → Option D := fun x y => match f x y with
  | some b => some (.bl b)
  | none => none
theorem v_cmp {op : CmpOp} {r : R2} {f : D → D → Option Bool} (ho : OpR X (compareOp op) r) (hs : OpB κ r f) (ha : PE X a (tX κ W (RB κ) ma)) (hb : PE X b (tX κ W (RB κ) mb)) (hm : behindInMarks op b = false) : PE X (.Compare a [op] [b] pos) (tX κ W (RP κ) (fOp (vB f) ma mb)) :=
  PE.imp (pe_cmpR ho ha hb hm) fun σ H Q h => op_tr (fun x y dx dy z H G env e r rx ry q => by
    unfold vB at e
    cases w : f dx dy with
    | none => rw [w] at e; cases e
    | some b =>
      rw [w] at e
      cases e
      exact hs x y dx dy b H G Q w r.sub rx ry (q (.bl b) H G r (.bl b) (Same.refl _) Fr.refl)) h
/-- .. as a test -/
theorem t_cmp {op : CmpOp} {r : R2} {f : D → D → Option Bool} (ho : OpR X (compareOp op) r) (hs : OpB κ r f) (ha : PE X a (tX κ W (RB κ) ma)) (hb : PE X b (tX κ W (RB κ) mb)) (hm : behindInMarks op b = false) : PT X (.Compare a [op] [b] pos) (tX κ W RT (fOp f ma mb)) :=
  PT.imp (pt_cmpR ho ha hb hm) fun σ H Q h => op_tr (Q := fun x H' => ∃ k, x = .bl k ∧ Q k H') (fun x y dx dy z H G env e r rx ry q => hs x y dx dy z H G _ e r.sub rx ry ⟨z, rfl, post_tt r q⟩) h
/-- a < b < c -/
def fCh (f g : D → D → Option Bool) (ma mb mc : Sm D) : Sm Bool := bnd ma fun x => bnd mb fun y => fun e => match f x y with
  | none => none
  | some false => some (.ok false e)
  | some true => bnd mc (fun z => fun e => match g y z with
    | some b => some (.ok b e)
    | none => none) e
end

/-! ### the operators' functions -/
abbrev szl : Nat := 1000000
theorem szl_le {n : Nat} (h : n ≤ szl) : n ≤ sizeLine := Nat.le_trans h (by decide)
theorem szl_lt {n : Nat} (h : n ≤ szl) : n < sizeLine := Nat.lt_of_le_of_lt h (by decide)
theorem S_add (a b : List Nat) : S a ++ S b = S (a ++ b) := congrArg Str.mk (show a.toArray ++ b.toArray = (a ++ b).toArray by simp)
def opAdd : D → D → Option Rs
  | .int i, .int j => some (.sh (.int (i + j)))
  | .str a, .str b => if a.length + b.length ≤ szl then some (.sh (.str (a ++ b))) else none
  | .lst a, .lst b => if a.length + b.length ≤ szl then some (.ow (a ++ b)) else none
  | _, _ => none
def rAddA : R2 := fun x y H Q => rI0 (fun i j => .int (i + j)) x y H Q ∨ (∃ i j, x = .str i ∧ y = .str j ∧ i.length + j.length ≤ sizeLine ∧ Q (.str (i ++ j)) H) ∨ rCat x y H Q
theorem o_add {X : Cx} : OpR X (binaryOp .Add) rAddA := OpR.or op_add (OpR.or op_add_str op_cat)
theorem s_add {κ : Kx} : OpV κ rAddA opAdd := fun W σ x y dx dy z H G env Q e r rx ry q => by
  cases dx <;> cases dy <;> try (cases e; done)
  · cases e
    exact .inl ⟨_, _, rx.int, ry.int, post_sh r (.int _) q⟩
  · rename_i a b
    dsimp only [opAdd] at e
    by_cases h : a.length + b.length ≤ szl
    · rw [if_pos h] at e
      cases e
      refine .inr (.inl ⟨_, _, rx.str, ry.str, by rw [S_len, S_len]; exact szl_le h, ?_⟩)
      rw [S_add]
      exact post_sh r (.str _) q
    · rw [if_neg h] at e; cases e
  · rename_i a b
    dsimp only [opAdd] at e
    by_cases h : a.length + b.length ≤ szl
    · rw [if_pos h] at e
      cases e
      obtain ⟨p, xs, rfl, h1, h2⟩ := rx.lst r.sub
      obtain ⟨p', ys, rfl, h3, h4⟩ := ry.lst r.sub
      exact .inr (.inr ⟨_, _, _, _, rfl, rfl, h1, h3, by rw [h2.length, h4.length]; exact szl_le h, fun p hp => post_ow r hp (h2.append h4) q⟩)
    · rw [if_neg h] at e; cases e
def opSub : D → D → Option Rs
  | .int i, .int j => some (.sh (.int (i - j)))
  | _, _ => none
theorem s_sub {κ : Kx} : OpV κ (rI0 fun i j => .int (i - j)) opSub := fun W σ x y dx dy z H G env Q e r rx ry q => by
  cases dx <;> cases dy <;> try (cases e; done)
  cases e
  exact ⟨_, _, rx.int, ry.int, post_sh r (.int _) q⟩
def opMod : D → D → Option Rs
  | .int i, .int j => if 0 < j then some (.sh (.int (i % j))) else none
  | _, _ => none
theorem s_mod {κ : Kx} : OpV κ (rI (fun _ j => 0 < j) fun i j => .int (i % j)) opMod := fun W σ x y dx dy z H G env Q e r rx ry q => by
  cases dx <;> cases dy <;> try (cases e; done)
  rename_i a b
  dsimp only [opMod] at e
  by_cases h : 0 < b
  · rw [if_pos h] at e
    cases e
    exact ⟨_, _, rx.int, ry.int, h, post_sh r (.int _) q⟩
  · rw [if_neg h] at e; cases e
def opDiv : D → D → Option Rs
  | .int i, .int j => if 0 < j ∧ j < 1000000000000 then some (.sh (.int (i / j))) else none
  | _, _ => none
theorem s_div {κ : Kx} : OpV κ (rI CDivW fun i j => .int (i / j)) opDiv := fun W σ x y dx dy z H G env Q e r rx ry q => by
  cases dx <;> cases dy <;> try (cases e; done)
  rename_i a b
  dsimp only [opDiv] at e
  by_cases h : 0 < b ∧ b < 1000000000000
  · rw [if_pos h] at e
    cases e
    exact ⟨_, _, rx.int, ry.int, wide_div (b := 40) h.1 (by omega) (by decide) (by decide), post_sh r (.int _) q⟩
  · rw [if_neg h] at e; cases e
def opMul : D → D → Option Rs
  | .int i, .int j => if Builtin.Int.intBits i + Builtin.Int.intBits j ≤ 134217728 then some (.sh (.int (i * j))) else none
  | .str a, .int j => if 0 ≤ j ∧ j ≤ 100000 ∧ a.length * j.toNat ≤ szl then some (.sh (.str (List.replicate j.toNat a).flatten)) else none
  | .lst a, .int j => if 0 ≤ j ∧ j ≤ 100000 ∧ a.length * j.toNat ≤ szl then some (.ow (List.replicate j.toNat a).flatten) else none
  | _, _ => none
def rMulS : R2 := fun x y H Q => ∃ (a : List Nat) (j : Int), x = .str (S a) ∧ y = .int j ∧ 0 ≤ j ∧ j ≤ 100000 ∧ a.length * j.toNat ≤ szl ∧ Q (.str (S (List.replicate j.toNat a).flatten)) H
theorem fold_rep (a : List Nat) : ∀ (n : Nat) (b : Array Nat), (List.replicate n a.toArray).foldl (· ++ ·) b = b ++ (List.replicate n a).flatten.toArray
  | 0, b => by simp
  | n + 1, b => by
    rw [List.replicate_succ, List.foldl_cons, fold_rep a n, List.replicate_succ, List.flatten_cons]
    simp
theorem mul_S (a : List Nat) (j : Int) (h : 0 ≤ j) : Txt.mul (S a) j = S (List.replicate j.toNat a).flatten := by
  unfold Txt.mul
  by_cases h1 : j < 1
  · rw [if_pos h1]
    have : j.toNat = 0 := by omega
    rw [this]
    rfl
  · rw [if_neg h1]
    by_cases h2 : (j == 1 || (S a).length == 0) = true
    · rw [if_pos h2]
      rw [Bool.or_eq_true] at h2
      rcases h2 with h2 | h2
      · have : j = 1 := by simpa using h2
        subst this
        show S a = S _
        rw [show (1 : Int).toNat = 1 from rfl, List.replicate_one]
        simp
      · rw [S_len] at h2
        have h3 : a = [] := by simpa using h2
        subst h3
        have : (List.replicate j.toNat ([] : List Nat)).flatten = [] := by simp
        rw [this]
    · rw [if_neg h2]
      show Str.mk _ = Str.mk _
      congr 1
      rw [show (S a).cps = a.toArray from rfl, fold_rep]
      simp
theorem o_mulS {X : Cx} : OpR X (binaryOp .Mult) rMulS := by
  intro pins s σ H x y v u Q I rx ry h
  obtain ⟨a, j, rfl, rfl, h1, h2, h3, q⟩ := h
  obtain ⟨t, rfl⟩ := rx
  obtain ⟨t', rfl⟩ := ry
  have hsz : sizeLine = 16777216 := sizeLine_eq
  refine SB.mul ⟨?_, fun h4 h5 => ?_, fun h4 h5 => ?_⟩ fun t' k => ?_
  · rw [Bool.or_eq_false_iff]
    exact ⟨decide_eq_false (by omega), decide_eq_false (by omega)⟩
  · rw [S_len]
    have h6 : (a.length : Int) * j ≤ 1000000 := by
      have e : ((a.length * j.toNat : Nat) : Int) = (a.length : Int) * j := by
        rw [Int.natCast_mul, Int.toNat_of_nonneg h1]
      rw [← e]
      have h3' : a.length * j.toNat ≤ 1000000 := h3
      exact Int.ofNat_le.mpr h3'
    have h7 : (a.length : Int) ≤ (a.length : Int) * j := by
      have : (a.length : Int) * 1 ≤ (a.length : Int) * j := Int.mul_le_mul_of_nonneg_left (by omega) (by omega)
      omega
    have h8 : (92233720368547 : Int) ≤ (2 ^ 63 - 1) / j := by
      rw [Int.le_ediv_iff_mul_le (by omega)]
      have : (92233720368547 : Int) * j ≤ 92233720368547 * 100000 := Int.mul_le_mul_of_nonneg_left h2 (by decide)
      omega
    omega
  · rw [S_len]
    unfold Builtin.Str.tooLong
    have : ¬ (a.length * j.toNat > sizeLine) := by
      have : a.length * j.toNat ≤ 1000000 := h3
      omega
    simpa using this
  · rw [mul_S a j h1]
    exact ⟨.str _, H, I.tok _, ⟨_, rfl⟩, q⟩
def rMulA : R2 := fun x y H Q => rI CMulX (fun i j => .int (i * j)) x y H Q ∨ rMulS x y H Q ∨ rRep x y H Q
theorem o_mul {X : Cx} : OpR X (binaryOp .Mult) rMulA := OpR.or op_mulX (OpR.or o_mulS op_rep)
theorem RpA.rep {κ : Kx} {G : Hp} {xs : List V} {l : List D} (h : RpA κ G xs l) : ∀ n : Nat, RpA κ G (List.replicate n xs).flatten (List.replicate n l).flatten
  | 0 => .nil
  | n + 1 => by
    rw [List.replicate_succ, List.replicate_succ, List.flatten_cons, List.flatten_cons]
    exact h.append (RpA.rep h n)
theorem s_mul {κ : Kx} : OpV κ rMulA opMul := fun W σ x y dx dy z H G env Q e r rx ry q => by
  cases dx <;> cases dy <;> try (cases e; done)
  · rename_i i j
    dsimp only [opMul] at e
    by_cases h : Builtin.Int.intBits i + Builtin.Int.intBits j ≤ 134217728
    · rw [if_pos h] at e
      cases e
      exact .inl ⟨_, _, rx.int, ry.int, by show ((Builtin.Int.intBits i : Nat) : Int) + ((Builtin.Int.intBits j : Nat) : Int) ≤ 134217728; omega, post_sh r (.int _) q⟩
    · rw [if_neg h] at e; cases e
  · rename_i a j
    dsimp only [opMul] at e
    by_cases h : 0 ≤ j ∧ j ≤ 100000 ∧ a.length * j.toNat ≤ szl
    · rw [if_pos h] at e
      cases e
      exact .inr (.inl ⟨_, _, rx.str, ry.int, h.1, h.2.1, h.2.2, post_sh r (.str _) q⟩)
    · rw [if_neg h] at e; cases e
  · rename_i a j
    dsimp only [opMul] at e
    by_cases h : 0 ≤ j ∧ j ≤ 100000 ∧ a.length * j.toNat ≤ szl
    · rw [if_pos h] at e
      cases e
      obtain ⟨p, xs, rfl, h1, h2⟩ := rx.lst r.sub
      exact .inr (.inr ⟨_, _, _, rfl, ry.int, h1, by omega, by omega, by rw [h2.length]; exact szl_le h.2.2, fun p hp => post_ow r hp (h2.rep _) q⟩)
    · rw [if_neg h] at e; cases e
def opPow : D → D → Option Rs
  | .int i, .int j => if 0 ≤ j ∧ j ≤ 1000 ∧ 0 ≤ i ∧ i ≤ 1000000 then some (.sh (.int (i ^ j.toNat))) else none
  | _, _ => none
theorem s_pow {κ : Kx} : OpV κ (rI CPow fun i j => .int (i ^ j.toNat)) opPow := fun W σ x y dx dy z H G env Q e r rx ry q => by
  cases dx <;> cases dy <;> try (cases e; done)
  rename_i a b
  dsimp only [opPow] at e
  by_cases h : 0 ≤ b ∧ b ≤ 1000 ∧ 0 ≤ a ∧ a ≤ 1000000
  · rw [if_pos h] at e
    cases e
    exact ⟨_, _, rx.int, ry.int, ⟨h.1, by omega, by omega⟩, post_sh r (.int _) q⟩
  · rw [if_neg h] at e; cases e
/-! ### comparisons -/
mutual
def D.toP : D → PyData
  | .non => .none
  | .bl b => .bool b
  | .int i => .int i
  | .str w => .str (S w)
  | .lst l => .list (toPA l)
  | .tup l => .tuple (toPA l)
  | .ob _ _ => .none
  | .scr _ => .none
  | .xn _ _ => .none
def toPA : List D → List PyData
  | [] => []
  | d :: ds => d.toP :: toPA ds
end
mutual
def D.pl : D → Bool
  | .non => true
  | .bl _ => true
  | .int _ => true
  | .str w => w.all fun c => c < 0x110000
  | .lst l => plA l
  | .tup l => plA l
  | .ob _ _ => false
  | .scr _ => false
  | .xn _ _ => false
def plA : List D → Bool
  | [] => true
  | d :: ds => d.pl && plA ds
end
mutual
theorem pl_lay : ∀ d : D, d.pl = true → d.toP.canLay0 = true
  | .non, _ => by simp only [D.toP, PyData.canLay0]
  | .bl _, _ => by simp only [D.toP, PyData.canLay0]
  | .int _, _ => by simp only [D.toP, PyData.canLay0]
  | .str w, h => by
    simp only [D.toP, PyData.canLay0, PyData.strOk]
    simpa [D.pl, S] using h
  | .lst l, h => by
    simp only [D.toP, PyData.canLay0]
    exact plA_lay l (by simpa [D.pl] using h)
  | .tup l, h => by
    simp only [D.toP, PyData.canLay0]
    exact plA_lay l (by simpa [D.pl] using h)
  | .ob _ _, h => by simp [D.pl] at h
  | .scr _, h => by simp [D.pl] at h
  | .xn _ _, h => by simp [D.pl] at h
theorem plA_lay : ∀ l : List D, plA l = true → PyData.canLayAll0 (toPA l) = true
  | [], _ => by simp only [toPA, PyData.canLayAll0]
  | d :: ds, h => by
    have h' : d.pl = true ∧ plA ds = true := by simpa [plA] using h
    simp only [toPA, PyData.canLayAll0, pl_lay d h'.1, plA_lay ds h'.2, Bool.and_self]
end
section
variable {κ : Kx} {H G : Hp}
mutual
theorem Rp.dp (s : Same G H) : ∀ {v : V} {d : D}, Rp κ G v d → d.pl = true → Dp κ.K H v d.toP
  | _, _, .non, _ => .non
  | _, _, .bl b, _ => .bl b
  | _, _, .int i, _ => .int i
  | _, _, .str w, _ => .str _
  | _, _, .lst h t, p => .lst (SqL.of (s _ _ h)) (RpA.dp s t (by simpa [D.pl] using p))
  | _, _, .tup h t, p => .tup (SqT.of (s _ _ h)) (RpA.dp s t (by simpa [D.pl] using p))
  | _, _, .ob _ _ _, p => by simp [D.pl] at p
  | _, _, .scr _, p => by simp [D.pl] at p
  | _, _, .xn _, p => by simp [D.pl] at p
theorem RpA.dp (s : Same G H) : ∀ {vs : List V} {ds : List D}, RpA κ G vs ds → plA ds = true → DpAll κ.K H vs (toPA ds)
  | _, _, .nil, _ => .nil
  | _, _, .cons h t, p => by
    have p' := p
    simp only [plA, Bool.and_eq_true] at p'
    exact .cons (Rp.dp s h p'.1) (RpA.dp s t p'.2)
end
theorem RBq.dp {v : V} {d : D} (s : Same G H) (r : RBq κ H G v d) (p : d.pl = true) : Dp κ.K H v d.toP := by
  rcases r with r | ⟨a, xs, l, rfl, rfl, h3, h4⟩
  · exact r.dp s p
  · exact .lst (SqL.of h3) (h4.dp s (by simpa [D.pl] using p))
end
def D.okE (d : D) : Bool := d.pl && decide (d.toP.depth ≤ 64)
theorem okE_shaped {d : D} (h : d.okE = true) : SeqAt.shaped d.toP = true := by
  unfold D.okE at h
  rw [Bool.and_eq_true] at h
  unfold SeqAt.shaped
  rw [pl_lay d h.1, h.2]
  rfl
theorem okE_pl {d : D} (h : d.okE = true) : d.pl = true := by
  unfold D.okE at h
  rw [Bool.and_eq_true] at h
  exact h.1
def cEq : D → D → Option Bool
  | .int i, .int j => some (decide (i = j))
  | .str a, .str b => some (decide (a = b))
  | .bl a, .bl b => some (decide (a = b))
  | x, y => if x.okE = true ∧ y.okE = true then some (PyData.eqv x.toP y.toP) else none
def cNe : D → D → Option Bool := fun x y => match cEq x y with
  | some b => some (!b)
  | none => none
def rEqA (κ : Kx) : R2 := fun x y H Q => rEq x y H Q ∨ rEqD κ.K x y H Q
def rNeA (κ : Kx) : R2 := fun x y H Q => rNe x y H Q ∨ rNeD κ.K x y H Q
theorem o_eq {X : Cx} {κ : Kx} (hK : X.K = κ.K) (hu : X.A.units + 64 < cLine) : OpR X (compareOp .Eq) (rEqA κ) := by
  unfold rEqA
  rw [← hK]
  exact OpR.or op_eq (op_eqD hu)
theorem o_ne {X : Cx} {κ : Kx} (hK : X.K = κ.K) (hu : X.A.units + 64 < cLine) : OpR X (compareOp .NotEq) (rNeA κ) := by
  unfold rNeA
  rw [← hK]
  exact OpR.or op_ne (op_neD hu)
theorem dec_S {a b : List Nat} : decide (V.str (S a) = V.str (S b)) = decide (a = b) := by
  by_cases h : a = b
  · subst h; simp
  · rw [decide_eq_false h, decide_eq_false]
    intro z
    injection z with z
    exact h (S_inj z)
theorem cEq_cases (x y : D) : (∃ i j, x = .int i ∧ y = .int j) ∨ (∃ i j, x = .str i ∧ y = .str j) ∨ (∃ i j, x = .bl i ∧ y = .bl j) ∨ cEq x y = if x.okE = true ∧ y.okE = true then some (PyData.eqv x.toP y.toP) else none := by
  cases x <;> cases y <;> first
    | exact .inl ⟨_, _, rfl, rfl⟩
    | exact .inr (.inl ⟨_, _, rfl, rfl⟩)
    | exact .inr (.inr (.inl ⟨_, _, rfl, rfl⟩))
    | exact .inr (.inr (.inr rfl))
theorem eqA {κ : Kx} {x y : V} {dx dy : D} {z : Bool} {H G : Hp} {Q : VK} (e : cEq dx dy = some z) (s : Same G H) (rx : RBq κ H G x dx) (ry : RBq κ H G y dy) :
    (Q (.bl z) H → rEqA κ x y H Q) ∧ (Q (.bl (!z)) H → rNeA κ x y H Q) := by
  rcases cEq_cases dx dy with ⟨i, j, rfl, rfl⟩ | ⟨i, j, rfl, rfl⟩ | ⟨i, j, rfl, rfl⟩ | h
  · cases e
    rw [rx.int, ry.int]
    refine ⟨fun q => .inl ⟨rfl, ?_⟩, fun q => .inl ⟨rfl, ?_⟩⟩
    · rw [show decide (V.int i = V.int j) = decide (i = j) by simp]; exact q
    · rw [show decide (V.int i = V.int j) = decide (i = j) by simp]; exact q
  · cases e
    rw [rx.str, ry.str]
    refine ⟨fun q => .inl ⟨rfl, ?_⟩, fun q => .inl ⟨rfl, ?_⟩⟩
    · rw [dec_S]; exact q
    · rw [dec_S]; exact q
  · cases e
    rw [rx.bl, ry.bl]
    refine ⟨fun q => .inl ⟨rfl, ?_⟩, fun q => .inl ⟨rfl, ?_⟩⟩
    · rw [show decide (V.bl i = V.bl j) = decide (i = j) by simp]; exact q
    · rw [show decide (V.bl i = V.bl j) = decide (i = j) by simp]; exact q
  · rw [h] at e
    by_cases o : dx.okE = true ∧ dy.okE = true
    · rw [if_pos o] at e
      cases e
      exact ⟨fun q => .inr ⟨_, _, rx.dp s (okE_pl o.1), ry.dp s (okE_pl o.2), okE_shaped o.1, okE_shaped o.2, q⟩, fun q => .inr ⟨_, _, rx.dp s (okE_pl o.1), ry.dp s (okE_pl o.2), okE_shaped o.1, okE_shaped o.2, q⟩⟩
    · rw [if_neg o] at e; cases e
theorem s_eq {κ : Kx} : OpB κ (rEqA κ) cEq := fun x y dx dy z H G Q e s rx ry q => (eqA e s rx ry).1 q
theorem s_ne {κ : Kx} : OpB κ (rNeA κ) cNe := fun x y dx dy z H G Q e s rx ry q => by
  unfold cNe at e
  cases h : cEq dx dy with
  | none => rw [h] at e; cases e
  | some b =>
    rw [h] at e
    cases e
    exact (eqA h s rx ry).2 q
/-- < and its like: two ints, or two texts -/
def cmpB (f : Int → Int → Bool) (g : List Nat → List Nat → Bool) : D → D → Option Bool
  | .int i, .int j => some (f i j)
  | .str a, .str b => some (g a b)
  | _, _ => none
abbrev cLt := cmpB (fun i j => decide (i < j)) (fun a b => decide (a < b))
abbrev cLe := cmpB (fun i j => decide (i ≤ j)) (fun a b => !decide (b < a))
abbrev cGt := cmpB (fun i j => decide (j < i)) (fun a b => decide (b < a))
abbrev cGe := cmpB (fun i j => decide (j ≤ i)) (fun a b => !decide (a < b))
def rCm (f : Int → Int → Bool) (g : List Nat → List Nat → Bool) : R2 := fun x y H Q => rI0 (fun i j => .bl (f i j)) x y H Q ∨ ∃ i j : Str, x = .str i ∧ y = .str j ∧ Q (.bl (g i.cps.toList j.cps.toList)) H
theorem s_cm {κ : Kx} {f : Int → Int → Bool} {g : List Nat → List Nat → Bool} : OpB κ (rCm f g) (cmpB f g) := fun x y dx dy z H G Q e s rx ry q => by
  cases dx <;> cases dy <;> try (cases e; done)
  · cases e
    exact .inl ⟨_, _, rx.int, ry.int, q⟩
  · cases e
    exact .inr ⟨_, _, rx.str, ry.str, q⟩
section
variable {X : Cx}
theorem o_lt : OpR X (compareOp .Lt) (rCm (fun i j => decide (i < j)) (fun a b => decide (a < b))) := OpR.or op_lt op_lt_str
theorem o_le : OpR X (compareOp .LtE) (rCm (fun i j => decide (i ≤ j)) (fun a b => !decide (b < a))) := OpR.or op_le op_le_str
theorem o_gt : OpR X (compareOp .Gt) (rCm (fun i j => decide (j < i)) (fun a b => decide (b < a))) := OpR.or op_gt op_gt_str
theorem o_ge : OpR X (compareOp .GtE) (rCm (fun i j => decide (j ≤ i)) (fun a b => !decide (a < b))) := OpR.or op_ge op_ge_str
end
/-- is None -/
def cIsN : D → D → Option Bool := fun x y => match y with
  | .non => match x with
    | .non => some true
    | _ => some false
  | _ => none
def cNotN : D → D → Option Bool := fun x y => match cIsN x y with
  | some b => some (!b)
  | none => none
theorem RBq.isN {κ : Kx} {H G : Hp} {v : V} {d : D} (r : RBq κ H G v d) : decide (v = .non) = (match d with | .non => true | _ => false) := by
  rcases r with r | ⟨a, xs, l, rfl, rfl, _⟩
  · cases r <;> simp
  · simp
theorem s_isN {κ : Kx} : OpB κ (fun x y H Q => y = .non ∧ Q (.bl (decide (x = .non))) H) cIsN := fun x y dx dy z H G Q e s rx ry q => by
  cases dy <;> try (cases e; done)
  refine ⟨ry.non, ?_⟩
  rw [rx.isN]
  cases dx <;> (cases e; exact q)
theorem s_notN {κ : Kx} : OpB κ (fun x y H Q => y = .non ∧ Q (.bl (!decide (x = .non))) H) cNotN := fun x y dx dy z H G Q e s rx ry q => by
  cases dy <;> try (cases e; done)
  refine ⟨ry.non, ?_⟩
  rw [rx.isN]
  cases dx <;> (cases e; exact q)
/-- in: a sign in a text, a flat value in a list or a tuple -/
def D.fl : D → Bool
  | .non => true
  | .bl _ => true
  | .int _ => true
  | .str _ => true
  | _ => false
def D.feq : D → D → Bool
  | .non, .non => true
  | .bl a, .bl b => a == b
  | .bl a, .int b => (if a then 1 else 0) == b
  | .int a, .bl b => a == (if b then 1 else 0)
  | .int a, .int b => a == b
  | .str a, .str b => a == b
  | _, _ => false
def cIn : D → D → Option Bool
  | .str [c], .str w => some (decide (c ∈ w))
  | x, .lst l => if x.fl = true ∧ l.all D.fl = true then some (l.any fun y => y.feq x) else none
  | x, .tup l => if x.fl = true ∧ l.all D.fl = true then some (l.any fun y => y.feq x) else none
  | _, _ => none
def cNin : D → D → Option Bool := fun x y => match cIn x y with
  | some b => some (!b)
  | none => none
theorem Rp.flat {κ : Kx} {G : Hp} {v : V} {d : D} (r : Rp κ G v d) : flatV v = d.fl := by
  cases r <;> rfl
theorem Rp.feq {κ : Kx} {G : Hp} {v u : V} {d e : D} (r : Rp κ G v d) (q : Rp κ G u e) : eqV v u = d.feq e := by
  cases r <;> cases q <;> first
    | rfl
    | (rename_i a b
       show (S a == S b) = (a == b)
       rw [Bool.eq_iff_iff]
       simp only [beq_iff_eq]
       exact ⟨S_inj, fun z => by rw [z]⟩)
theorem RpA.fl {κ : Kx} {G : Hp} : ∀ {vs : List V} {ds : List D}, RpA κ G vs ds → vs.all flatV = ds.all D.fl
  | _, _, .nil => rfl
  | _, _, .cons r t => by rw [List.all_cons, List.all_cons, r.flat, RpA.fl t]
theorem RpA.any {κ : Kx} {G : Hp} {x : V} {dx : D} (rx : Rp κ G x dx) : ∀ {vs : List V} {ds : List D}, RpA κ G vs ds → inV x vs = ds.any fun y => y.feq dx
  | _, _, .nil => rfl
  | _, _, .cons r t => by
    have ih := RpA.any rx t
    unfold inV at ih ⊢
    rw [List.any_cons, List.any_cons, r.feq rx, ih]
def rInA (κ : Kx) (neg : Bool) : R2 := fun x y H Q => (∃ (c : Nat) (z : Str), x = .str ⟨#[c]⟩ ∧ y = .str z ∧ Q (.bl (if neg then !decide (c ∈ z.cps.toList) else decide (c ∈ z.cps.toList))) H) ∨ rIn κ.K neg x y H Q
theorem o_in {X : Cx} {κ : Kx} (hK : X.K = κ.K) : OpR X (compareOp .In) (rInA κ false) := by
  unfold rInA
  rw [← hK]
  exact OpR.or op_in_sign op_in_seq
theorem o_nin {X : Cx} {κ : Kx} (hK : X.K = κ.K) : OpR X (compareOp .NotIn) (rInA κ true) := by
  unfold rInA
  rw [← hK]
  exact OpR.or op_notIn_sign op_notIn_seq
theorem RBq.rp {κ : Kx} {H G : Hp} {v : V} {d : D} (r : RBq κ H G v d) (f : d.fl = true) : Rp κ G v d := by
  rcases r with r | ⟨a, xs, l, rfl, rfl, _⟩
  · exact r
  · cases f
theorem inA {κ : Kx} {neg : Bool} {x y : V} {dx dy : D} {z : Bool} {H G : Hp} {Q : VK} (e : cIn dx dy = some z) (s : Same G H) (rx : RBq κ H G x dx) (ry : RBq κ H G y dy) (q : Q (.bl (if neg then !z else z)) H) : rInA κ neg x y H Q := by
  cases dy with
  | str w =>
    cases dx with
    | str a =>
      cases a with
      | nil => cases e
      | cons c r =>
        cases r with
        | nil =>
          cases e
          exact .inl ⟨c, S w, rx.str, ry.str, q⟩
        | cons => cases e
    | _ => cases e
  | lst l =>
    have e' : (if dx.fl = true ∧ l.all D.fl = true then some (l.any fun y => y.feq dx) else none) = some z := by
      cases dx with
      | str a => cases a with
        | nil => exact e
        | cons c r => cases r <;> exact e
      | _ => exact e
    by_cases h : dx.fl = true ∧ l.all D.fl = true
    · rw [if_pos h] at e'
      cases e'
      obtain ⟨a, xs, rfl, h1, h2⟩ := ry.lst s
      have rx' := rx.rp h.1
      refine .inr ⟨a, xs, rfl, .inl (SqL.of h1), by rw [rx'.flat]; exact h.1, by rw [h2.fl]; exact h.2, ?_⟩
      rw [h2.any rx']
      exact q
    · rw [if_neg h] at e'; cases e'
  | tup l =>
    have e' : (if dx.fl = true ∧ l.all D.fl = true then some (l.any fun y => y.feq dx) else none) = some z := by
      cases dx with
      | str a => cases a with
        | nil => exact e
        | cons c r => cases r <;> exact e
      | _ => exact e
    by_cases h : dx.fl = true ∧ l.all D.fl = true
    · rw [if_pos h] at e'
      cases e'
      obtain ⟨a, xs, rfl, h1, h2⟩ := ry.tup s
      have rx' := rx.rp h.1
      refine .inr ⟨a, xs, rfl, .inr (SqT.of h1), by rw [rx'.flat]; exact h.1, by rw [h2.fl]; exact h.2, ?_⟩
      rw [h2.any rx']
      exact q
    · rw [if_neg h] at e'; cases e'
  | _ =>
    cases dx with
    | str a => cases a with
      | nil => cases e
      | cons c r => cases r <;> cases e
    | _ => cases e
theorem s_in {κ : Kx} : OpB κ (rInA κ false) cIn := fun x y dx dy z H G Q e s rx ry q => inA e s rx ry (by simpa using q)
theorem s_nin {κ : Kx} : OpB κ (rInA κ true) cNin := fun x y dx dy z H G Q e s rx ry q => by
  unfold cNin at e
  cases h : cIn dx dy with
  | none => rw [h] at e; cases e
  | some b =>
    rw [h] at e
    cases e
    exact inA h s rx ry (by simpa using q)

/-! ### places, slices, lengths, displays -/
theorem atI_rp {κ : Kx} {G : Hp} {xs : List V} {l : List D} {i : Int} {d : D} (h : RpA κ G xs l) (e : atI l i = some d) : ∃ v, atI xs i = some v ∧ Rp κ G v d := by
  unfold atI at e ⊢
  rw [h.length]
  cases z : ixN l.length i with
  | none => rw [z] at e; cases e
  | some j =>
    rw [z] at e
    exact h.getD e
def opIx : D → D → Option D
  | .lst l, .int i => atI l i
  | .tup l, .int i => atI l i
  | .scr l, .int i => match atI l i with
    | some n => some (.int n)
    | none => none
  | .str w, .int i => if w.length ≤ szl then (match atI w i with
    | some c => some (.str [c])
    | none => none) else none
  | _, _ => none
theorem atI_map {α β : Type} (f : α → β) (l : List α) (i : Int) : atI (l.map f) i = (atI l i).map f := by
  unfold atI
  rw [List.length_map]
  cases ixN l.length i with
  | none => rfl
  | some j => simp
section
variable {X : Cx} {κ : Kx} {W : WX} {a b c : Expr} {ma mb mc : Sm D} {pos p2 : Pos}
theorem v_ix (hK : X.K = κ.K) (ha : PE X a (tX κ W (RB κ) ma)) (hb : PE X b (tX κ W (RB κ) mb)) (hs : PlainIx b) : PE X (.Subscript a b pos) (tX κ W (RP κ) (fOp opIx ma mb)) :=
  PE.imp (pe_ix (r := rIx κ.K) (by rw [← hK]; exact ix_seq) ha hb hs) fun σ H Q h => op_tr (fun x y dx dy z H G env e r rx ry q => by
    cases dx with
    | lst l =>
      cases dy <;> try (cases e; done)
      obtain ⟨p, xs, rfl, h1, h2⟩ := rx.lst r.sub
      obtain ⟨v, h3, h4⟩ := atI_rp h2 e
      exact .inl ⟨_, _, _, _, rfl, ry.int, SqL.of h1, h3, q v H G r h4 (Same.refl _) Fr.refl⟩
    | tup l =>
      cases dy <;> try (cases e; done)
      obtain ⟨p, xs, rfl, h1, h2⟩ := rx.tup r.sub
      obtain ⟨v, h3, h4⟩ := atI_rp h2 e
      exact .inr (.inl ⟨_, _, _, _, rfl, ry.int, SqT.of h1, h3, q v H G r h4 (Same.refl _) Fr.refl⟩)
    | scr l =>
      cases dy <;> try (cases e; done)
      rename_i i
      obtain ⟨p, rfl, h1⟩ := rx.scr r.sub
      dsimp only [opIx] at e
      cases w : atI l i with
      | none => rw [w] at e; cases e
      | some n =>
        rw [w] at e
        cases e
        exact .inl ⟨_, _, _, _, rfl, ry.int, h1, by rw [atI_map, w]; rfl, q _ H G r (.int n) (Same.refl _) Fr.refl⟩
    | str t =>
      cases dy <;> try (cases e; done)
      rename_i i
      dsimp only [opIx] at e
      by_cases hl : t.length ≤ szl
      · rw [if_pos hl] at e
        cases w : atI t i with
        | none => rw [w] at e; cases e
        | some c =>
          rw [w] at e
          cases e
          exact .inr (.inr ⟨S t, i, c, rx.str, ry.int, by rw [S_len]; exact szl_le hl, w, q _ H G r (.str [c]) (Same.refl _) Fr.refl⟩)
      · rw [if_neg hl] at e; cases e
    | _ => cases dy <;> cases e) h
/-- a part of a slice -/
def RO : Rl (Option Int) (Option Int) := fun _ _ _ _ _ o p => o = p
instance : RlMono RO := ⟨fun _ q => q⟩
def poN : Sm (Option Int) := fun e => some (.ok none e)
def poS (m : Sm D) : Sm (Option Int) := bnd m fun d e => match d with
  | .int i => some (.ok (some i) e)
  | _ => none
theorem po_imp {e : Option Expr} {t t' : TO} (h : PO X e t) (k : ∀ σ H Q, t' σ H Q → t σ H Q) : PO X e t' := ⟨fun pins s σ H Q I q => h.run pins s σ H Q I (k σ H Q q)⟩
theorem o_none : PO X none (tX κ W RO poN) := po_imp po_none fun σ H Q ⟨G, env, r, q⟩ => q none H G r rfl (Same.refl _) Fr.refl
theorem o_some (h : PE X a (tX κ W (RB κ) ma)) : PO X (some a) (tX κ W RO (poS ma)) := po_imp (po_some h) fun σ H Q ⟨G, env, r, q⟩ =>
  bind_post r q fun d e1 v H1 G1 _ r1 rv s1 f1 q1 => by
    cases d <;> try (cases q1; done)
    exact ⟨_, RBq.int rv, q1 _ H1 G1 r1 rfl (Same.refl _) Fr.refl⟩
def cutL {α : Type} (l : List α) (lo hi : Option Int) : List α := (l.drop (HT.sIx l.length 0 lo)).take (HT.sIx l.length l.length hi - HT.sIx l.length 0 lo)
def opSl : D → Option Int → Option Int → Option Rs
  | .str w, lo, hi => if w.length ≤ szl then some (.sh (.str (cutL w lo hi))) else none
  | .lst l, lo, hi => some (.ow (cutL l lo hi))
  | .scr l, lo, hi => some (.ow ((cutL l lo hi).map D.int))
  | .tup l, lo, hi => if HT.sIx l.length 0 lo = 0 ∧ HT.sIx l.length l.length hi = l.length then none else some (.sh (.tup (cutL l lo hi)))
  | _, _, _ => none
def fSl (m : Sm D) (lo hi : Sm (Option Int)) : Sm Rs := bnd m fun d => bnd lo fun i => bnd hi fun j e => match opSl d i j with
  | some z => some (.ok z e)
  | none => none
theorem v_sl {lo hi : Option Expr} {ml mh : Sm (Option Int)} (hK : X.K = κ.K) (ha : PE X a (tX κ W (RB κ) ma)) (hl : PO X lo (tX κ W RO ml)) (hh : PO X hi (tX κ W RO mh)) :
    PE X (.Subscript a (.Slice lo hi none p2) pos) (tX κ W (RV κ) (fSl ma ml mh)) :=
  PE.imp (pe_slice (r := fun x lo hi H Q => rSlS x lo hi H Q ∨ rSlL κ.K x lo hi H Q ∨ rSlT κ.K x lo hi H Q) (by rw [← hK]; exact SlR.or sl_str (SlR.or sl_list sl_tup)) ha hl hh) fun σ H Q ⟨G, env, r, q⟩ => by
    refine bind_post r q fun d e1 x H1 G1 _ r1 rx s1 f1 q1 => ?_
    refine bind_post r1 q1 fun i e2 i' H2 G2 _ r2 ri s2 f2 q2 => ?_
    refine bind_post r2 q2 fun j e3 j' H3 G3 _ r3 rj s3 f3 q3 => ?_
    cases ri
    cases rj
    have rx3 := RBq.mono (s2.trans s3) (f2.gk.trans f3.gk) rx
    cases d with
    | str w =>
      dsimp only [opSl] at q3
      by_cases h : w.length ≤ szl
      · rw [if_pos h] at q3
        exact .inl ⟨S w, rx3.str, by rw [S_len]; exact szl_le h, post_sh r3 (show Rp κ G3 (.str (cutS (S w) i j)) (.str (cutL w i j)) by
          have e : cutS (S w) i j = S (cutL w i j) := by
            unfold cutS cutL S
            rfl
          rw [e]; exact .str _) q3⟩
      · rw [if_neg h] at q3; exact q3.elim
    | lst l =>
      obtain ⟨p, xs, rfl, h1, h2⟩ := rx3.lst r3.sub
      refine .inr (.inl ⟨p, xs, rfl, SqL.of h1, fun p' hp => ?_⟩)
      have e : RpA κ G3 (cutV xs i j) (cutL l i j) := by
        unfold cutV cutL
        rw [h2.length]
        exact (h2.drop _).take _
      exact post_ow r3 hp e q3
    | scr l =>
      obtain ⟨p, rfl, h1⟩ := rx3.scr r3.sub
      refine .inr (.inl ⟨p, _, rfl, h1, fun p' hp => ?_⟩)
      have e : RpA κ G3 (cutV (l.map V.int) i j) ((cutL l i j).map D.int) := by
        have e2 : cutV (l.map V.int) i j = (cutL l i j).map V.int := by
          unfold cutV cutL
          rw [List.length_map, List.map_take, List.map_drop]
        rw [e2]
        exact RpA.ints _
      exact post_ow r3 hp e q3
    | tup l =>
      dsimp only [opSl] at q3
      by_cases h : HT.sIx l.length 0 i = 0 ∧ HT.sIx l.length l.length j = l.length
      · rw [if_pos h] at q3; exact q3.elim
      · rw [if_neg h] at q3
        obtain ⟨p, xs, rfl, h1, h2⟩ := rx3.tup r3.sub
        refine .inr (.inr ⟨p, xs, rfl, SqT.of h1, by rw [h2.length]; exact h, fun p' hp => ?_⟩)
        have e : RpA κ G3 (cutV xs i j) (cutL l i j) := by
          unfold cutV cutL
          rw [h2.length]
          exact (h2.drop _).take _
        exact post_tup r3 hp e q3
    | _ => exact q3.elim
end
/-! ### arguments -/
def aNil : Sm (List D) := fun e => some (.ok [] e)
def aCons (m : Sm D) (ms : Sm (List D)) : Sm (List D) := bnd m fun d => bnd ms fun ds e => some (.ok (d :: ds) e)
theorem RBs.mono {κ : Kx} {H G H' G' : Hp} (h : Same H H') (g : Same G G') : ∀ {ms : List Bool} {vs : List V} {ds : List D}, RBs κ H G ms vs ds → RBs κ H' G' ms vs ds
  | _, _, _, .nil => .nil
  | _, _, _, .sh r t => .sh (r.mono g) (RBs.mono h g t)
  | _, _, _, .bo r t => .bo (RBq.mono h g r) (RBs.mono h g t)
section
variable {X : Cx} {κ : Kx} {W : WX} {a b c : Expr} {ma mb mc : Sm D} {es : List Expr} {ms : List Bool} {mr : Sm (List D)} {pos p2 : Pos}
theorem a_nil : PA X [] (tX κ W (RA κ []) aNil) := PA.imp pa_nil fun σ H Q ⟨G, env, r, q⟩ => q [] H G r .nil (Same.refl _) Fr.refl
theorem a_bo (ha : PE X a (tX κ W (RB κ) ma)) (hr : PA X es (tX κ W (RA κ ms) mr)) (hs : starEach (a :: es) X.env = (false, eval a X.env) :: starEach es X.env := by rfl) : PA X (a :: es) (tX κ W (RA κ (true :: ms)) (aCons ma mr)) :=
  PA.imp (pa_cons ha hr hs) fun σ H Q ⟨G, env, r, q⟩ => by
    refine bind_post r q fun d e1 x H1 G1 _ r1 rx s1 f1 q1 => ?_
    refine bind_post r1 q1 fun ds e2 vs H2 G2 _ r2 rs s2 f2 q2 => ?_
    exact q2 (x :: vs) H2 G2 r2 (.bo (RBq.mono s2 f2.gk rx) rs) (Same.refl _) Fr.refl
theorem a_sh (ha : PE X a (tX κ W (RP κ) ma)) (hr : PA X es (tX κ W (RA κ ms) mr)) (hs : starEach (a :: es) X.env = (false, eval a X.env) :: starEach es X.env := by rfl) : PA X (a :: es) (tX κ W (RA κ (false :: ms)) (aCons ma mr)) :=
  PA.imp (pa_cons ha hr hs) fun σ H Q ⟨G, env, r, q⟩ => by
    refine bind_post r q fun d e1 x H1 G1 _ r1 rx s1 f1 q1 => ?_
    refine bind_post r1 q1 fun ds e2 vs H2 G2 _ r2 rs s2 f2 q2 => ?_
    exact q2 (x :: vs) H2 G2 r2 (.sh (Rp.mono f2.gk rx) rs) (Same.refl _) Fr.refl
/-- all given away -/
def allSh : List Bool → Bool
  | [] => true
  | b :: r => !b && allSh r
theorem RBs.all : ∀ {ms : List Bool} {vs : List V} {ds : List D} {H G : Hp}, allSh ms = true → RBs κ H G ms vs ds → RpA κ G vs ds
  | _, _, _, _, _, _, .nil => .nil
  | _, _, _, _, _, h, .sh r t => .cons r (RBs.all (by simpa [allSh] using h) t)
  | _, _, _, _, _, h, .bo r t => by simp [allSh] at h
def fLst (m : Sm (List D)) : Sm Rs := bnd m fun l e => if l.length ≤ szl then some (.ok (.ow l) e) else none
def fTup (m : Sm (List D)) : Sm D := bnd m fun l e => if l.length ≤ szl then some (.ok (.tup l) e) else none
theorem v_lst (hm : allSh ms = true) (h : PA X es (tX κ W (RA κ ms) mr)) : PE X (.List es pos) (tX κ W (RV κ) (fLst mr)) := PE.imp (pe_lst h) fun σ H Q ⟨G, env, r, q⟩ => by
  refine bind_post r q fun l e1 vs H1 G1 _ r1 rx s1 f1 q1 => ?_
  by_cases hl : l.length ≤ szl
  · rw [if_pos hl] at q1
    have ra := RBs.all hm rx
    exact ⟨by rw [ra.length]; exact szl_le hl, fun p hp => post_ow r1 hp ra q1⟩
  · rw [if_neg hl] at q1; exact q1.elim
theorem v_tup {x1 : Nat} (hm : allSh ms = true) (h : PA X es (tX κ W (RA κ ms) mr)) : PE X (.Tuple es x1 pos) (tX κ W (RP κ) (fTup mr)) := PE.imp (pe_tup h) fun σ H Q ⟨G, env, r, q⟩ => by
  refine bind_post r q fun l e1 vs H1 G1 _ r1 rx s1 f1 q1 => ?_
  by_cases hl : l.length ≤ szl
  · rw [if_pos hl] at q1
    have ra := RBs.all hm rx
    refine ⟨by rw [ra.length]; exact szl_le hl, fun p hp => ?_⟩
    have s := new_sh (o := .tup vs) r1 hp
    exact q1 _ _ _ s.rep (.tup upd_same (ra.mono (same_new (Same.none r1.sub hp)))) s.same s.fr
  · rw [if_neg hl] at q1; exact q1.elim
/-! ### built-ins by name -/
/-- a call on values serves its function -/
def ClV (κ : Kx) (ms : List Bool) (r : List V → Hp → VK → Prop) (f : List D → Option Rs) : Prop := ∀ (W : WX) (σ : L2.St) (vs : List V) (ds : List D) (z : Rs) (H G : Hp) (env : En) (Q : VK), f ds = some z → Rep κ H G σ env → RBs κ H G ms vs ds → EPost κ W (RV κ) σ H G env (some (.ok z env)) Q → r vs H Q
def fCl (f : List D → Option Rs) (m : Sm (List D)) : Sm Rs := bnd m fun ds e => match f ds with
  | some z => some (.ok z e)
  | none => none
theorem cl_tr {r : List V → Hp → VK → Prop} {f : List D → Option Rs} (hs : ClV κ ms r f) {σ : L2.St} {H : Hp} {Q : VK} (h : tX κ W (RV κ) (fCl f mr) σ H Q) : tCB r (tX κ W (RA κ ms) mr) σ H Q := by
  obtain ⟨G, env, rp, q⟩ := h
  refine bind_post rp q fun ds e1 vs H1 G1 _ r1 rx s1 f1 q1 => ?_
  cases z : f ds with
  | none => rw [z] at q1; exact q1.elim
  | some w => rw [z] at q1; exact hs W σ vs ds w H1 G1 e1 Q z r1 rx q1
theorem v_callB {r : List V → Hp → VK → Prop} {f : List D → Option Rs} {id : String} {x : Str} {p : Pos} (hc : CallR X (.builtin id) r) (hs : ClV κ ms r f) (hg : Gl X x) (hm : X.mg x = none) (hv : bootBuiltins x = some (.builtin id)) (ha : PA X (a :: es) (tX κ W (RA κ ms) mr))
    (hn : x ≠ "__name__" := by decide) (hdb : (x == ("__debug__" : Str)) = false := by decide) (he : starEach (a :: es) X.env = (false, eval a X.env) :: starEach es X.env := by rfl) (hpl : (backTo pos (starEach es X.env)).any (·.1) = false := by rfl) :
    PE X (.Call (.Name x p) (a :: es) [] pos) (tX κ W (RV κ) (fCl f mr)) := PE.imp (pe_callB hc hg hm hv ha hn hdb he hpl) fun σ H Q h => cl_tr hs h
theorem v_callTy {r : List V → Hp → VK → Prop} {f : List D → Option Rs} {T : String} {x : Str} {p : Pos} (hc : CallR X (.type T) r) (hs : ClV κ ms r f) (hg : Gl X x) (hm : X.mg x = none) (hv : bootBuiltins x = some (.type T)) (ha : PA X (a :: es) (tX κ W (RA κ ms) mr))
    (hn : x ≠ "__name__" := by decide) (hdb : (x == ("__debug__" : Str)) = false := by decide) (he : starEach (a :: es) X.env = (false, eval a X.env) :: starEach es X.env := by rfl) (hpl : (backTo pos (starEach es X.env)).any (·.1) = false := by rfl) :
    PE X (.Call (.Name x p) (a :: es) [] pos) (tX κ W (RV κ) (fCl f mr)) := PE.imp (pe_callTy hc hg hm hv ha hn hdb he hpl) fun σ H Q h => cl_tr hs h
end
theorem RBs.one {κ : Kx} {H G : Hp} {vs : List V} {d : D} (r : RBs κ H G [true] vs [d]) : ∃ v, vs = [v] ∧ RBq κ H G v d := by
  cases r with
  | bo r t => cases t; exact ⟨_, rfl, r⟩
theorem RBs.two {κ : Kx} {H G : Hp} {vs : List V} {d e : D} (r : RBs κ H G [true, true] vs [d, e]) : ∃ v u, vs = [v, u] ∧ RBq κ H G v d ∧ RBq κ H G u e := by
  cases r with
  | bo r t =>
    cases t with
    | bo r2 t2 => cases t2; exact ⟨_, _, rfl, r, r2⟩
def lenD : D → Option Nat
  | .str w => if w.length ≤ szl then some w.length else none
  | .lst l => some l.length
  | .tup l => some l.length
  | .scr l => some l.length
  | _ => none
def opLen : List D → Option Rs
  | [d] => match lenD d with
    | some n => some (.sh (.int n))
    | none => none
  | _ => none
theorem s_len {κ : Kx} : ClV κ [true] (fun xs H Q => ∃ x n, xs = [x] ∧ LenV κ.K x H n ∧ Q (.int n) H) opLen := fun W σ vs ds z H G env Q e r rx q => by
  cases ds with
  | nil => cases e
  | cons d t =>
    cases t with
    | cons _ _ => cases e
    | nil =>
      obtain ⟨v, rfl, rv⟩ := RBs.one rx
      dsimp only [opLen] at e
      cases w : lenD d with
      | none => rw [w] at e; cases e
      | some n =>
        rw [w] at e
        cases e
        refine ⟨v, n, rfl, ?_, post_sh r (.int _) q⟩
        cases d <;> try (cases w; done)
        · rename_i t
          dsimp only [lenD] at w
          by_cases h : t.length ≤ szl
          · rw [if_pos h] at w
            cases w
            rw [rv.str]
            exact ⟨by rw [S_len]; exact szl_le h, (S_len _).symm⟩
          · rw [if_neg h] at w; cases w
        · cases w
          obtain ⟨p, xs, rfl, h1, h2⟩ := rv.lst r.sub
          exact .inl ⟨xs, SqL.of h1, h2.length.symm⟩
        · cases w
          obtain ⟨p, xs, rfl, h1, h2⟩ := rv.tup r.sub
          exact .inr ⟨xs, SqT.of h1, h2.length.symm⟩
        · cases w
          obtain ⟨p, rfl, h1⟩ := rv.scr r.sub
          exact .inl ⟨_, h1, by rw [List.length_map]⟩
def opList : List D → Option Rs
  | [.lst l] => some (.ow l)
  | [.tup l] => some (.ow l)
  | [.scr l] => some (.ow (l.map D.int))
  | _ => none
theorem s_list {κ : Kx} : ClV κ [true] (fun xs H Q => ∃ p ys, xs = [.ref p] ∧ (SqL κ.K H p ys ∨ SqT κ.K H p ys) ∧ ∀ l, H l = none → Q (.ref l) (upd H l (.lst ys))) opList := fun W σ vs ds z H G env Q e r rx q => by
  cases ds with
  | nil => cases e
  | cons d t =>
    cases t with
    | cons _ _ => cases d <;> cases e
    | nil =>
      obtain ⟨v, rfl, rv⟩ := RBs.one rx
      cases d <;> try (cases e; done)
      · cases e
        obtain ⟨p, xs, rfl, h1, h2⟩ := rv.lst r.sub
        exact ⟨p, xs, rfl, .inl (SqL.of h1), fun l hl => post_ow r hl h2 q⟩
      · cases e
        obtain ⟨p, xs, rfl, h1, h2⟩ := rv.tup r.sub
        exact ⟨p, xs, rfl, .inr (SqT.of h1), fun l hl => post_ow r hl h2 q⟩
      · cases e
        obtain ⟨p, rfl, h1⟩ := rv.scr r.sub
        exact ⟨p, _, rfl, .inl h1, fun l hl => post_ow r hl (RpA.ints _) q⟩
def opMin : List D → Option Rs
  | [.int i, .int j] => some (.sh (.int (if j < i then j else i)))
  | _ => none
def opMax : List D → Option Rs
  | [.int i, .int j] => some (.sh (.int (if j > i then j else i)))
  | _ => none
theorem two_ints {κ : Kx} {H G : Hp} {vs : List V} {ds : List D} {f : List D → Option Rs} {g : Int → Int → Rs} {z : Rs} (hf : ∀ ds z, f ds = some z → ∃ i j, ds = [.int i, .int j] ∧ z = g i j) (e : f ds = some z) (rx : RBs κ H G [true, true] vs ds) : ∃ i j, vs = [.int i, .int j] ∧ z = g i j := by
  obtain ⟨i, j, rfl, rfl⟩ := hf _ _ e
  obtain ⟨v, u, rfl, r1, r2⟩ := RBs.two rx
  exact ⟨i, j, by rw [r1.int, r2.int], rfl⟩
theorem s_min {κ : Kx} : ClV κ [true, true] (fun xs H Q => ∃ i j, xs = [.int i, .int j] ∧ Q (.int (if j < i then j else i)) H) opMin := fun W σ vs ds z H G env Q e r rx q => by
  obtain ⟨i, j, rfl, rfl⟩ := two_ints (g := fun i j => .sh (.int (if j < i then j else i))) (fun ds z e => by
    unfold opMin at e
    split at e
    · cases e; exact ⟨_, _, rfl, rfl⟩
    · cases e) e rx
  exact ⟨i, j, rfl, post_sh r (.int _) q⟩
theorem s_max {κ : Kx} : ClV κ [true, true] (fun xs H Q => ∃ i j, xs = [.int i, .int j] ∧ Q (.int (if j > i then j else i)) H) opMax := fun W σ vs ds z H G env Q e r rx q => by
  obtain ⟨i, j, rfl, rfl⟩ := two_ints (g := fun i j => .sh (.int (if j > i then j else i))) (fun ds z e => by
    unfold opMax at e
    split at e
    · cases e; exact ⟨_, _, rfl, rfl⟩
    · cases e) e rx
  exact ⟨i, j, rfl, post_sh r (.int _) q⟩
def opStr : List D → Option Rs
  | [.int i] => if i.natAbs.log2 < 1920 then some (.sh (.str (toString i : Str).cps.toList)) else none
  | _ => none
theorem s_str {κ : Kx} : ClV κ [true] (fun xs H Q => ∃ i, xs = [.int i] ∧ i.natAbs.log2 < 1920 ∧ Q (.str (toString i)) H) opStr := fun W σ vs ds z H G env Q e r rx q => by
  cases ds with
  | nil => cases e
  | cons d t =>
    cases t with
    | cons _ _ => cases d <;> cases e
    | nil =>
      obtain ⟨v, rfl, rv⟩ := RBs.one rx
      cases d <;> try (cases e; done)
      rename_i i
      dsimp only [opStr] at e
      by_cases h : i.natAbs.log2 < 1920
      · rw [if_pos h] at e
        cases e
        refine ⟨i, by rw [rv.int], h, post_sh r ?_ q⟩
        have := Rp.str (κ := κ) (G := G) (toString i : Str).cps.toList
        rw [S_list] at this
        exact this
      · rw [if_neg h] at e; cases e
def allInts : List D → Option (List Int)
  | [] => some []
  | .int i :: r => match allInts r with
    | some l => some (i :: l)
    | none => none
  | _ :: _ => none
theorem allInts_of : ∀ {l : List D} {ns : List Int}, allInts l = some ns → l = ns.map D.int
  | [], _, e => by cases e; rfl
  | d :: r, ns, e => by
    cases d <;> try (cases e; done)
    rename_i i
    dsimp only [allInts] at e
    cases h : allInts r with
    | none => rw [h] at e; cases e
    | some l =>
      rw [h] at e
      cases e
      rw [allInts_of h]
      rfl
theorem RpA.ofInts {κ : Kx} {G : Hp} : ∀ {ns : List Int} {xs : List V}, RpA κ G xs (ns.map D.int) → xs = ns.map V.int
  | [], _, .nil => rfl
  | n :: r, _, .cons (.int _) t => by rw [RpA.ofInts t]; rfl
def opSum : List D → Option Rs
  | [.lst l] => match allInts l with
    | some ns => some (.sh (.int ns.sum))
    | none => none
  | _ => none
theorem s_sum {κ : Kx} : ClV κ [true] (rSum κ.K) opSum := fun W σ vs ds z H G env Q e r rx q => by
  cases ds with
  | nil => cases e
  | cons d t =>
    cases t with
    | cons _ _ => cases d <;> cases e
    | nil =>
      obtain ⟨v, rfl, rv⟩ := RBs.one rx
      cases d <;> try (cases e; done)
      rename_i l
      dsimp only [opSum] at e
      cases h : allInts l with
      | none => rw [h] at e; cases e
      | some ns =>
        rw [h] at e
        cases e
        rw [allInts_of h] at rv
        obtain ⟨p, xs, rfl, h1, h2⟩ := rv.lst r.sub
        rw [RpA.ofInts h2] at h1
        exact ⟨p, ns, rfl, SqL.of h1, post_sh r (.int _) q⟩

/-! ### tests -/
def truD : D → Option Bool
  | .non => some false
  | .bl b => some b
  | .int i => some (i != 0)
  | .str w => if w.length ≤ szl then some (!w.isEmpty) else none
  | .lst l => some (!l.isEmpty)
  | .tup l => some (!l.isEmpty)
  | _ => none
def fTru (m : Sm D) : Sm Bool := bnd m fun d e => match truD d with
  | some b => some (.ok b e)
  | none => none
theorem RpA.emp {κ : Kx} {G : Hp} {xs : List V} {l : List D} (h : RpA κ G xs l) : xs.isEmpty = l.isEmpty := by cases h <;> rfl
theorem tru_of {κ : Kx} {H G : Hp} {v : V} {d : D} {b : Bool} (s : Same G H) (r : RBq κ H G v d) (e : truD d = some b) : TruV κ.K v H b := by
  cases d with
  | non => cases e; rw [r.non]; rfl
  | bl c => cases e; rw [r.bl]; rfl
  | int i => cases e; rw [r.int]; rfl
  | str w =>
    dsimp only [truD] at e
    by_cases h : w.length ≤ szl
    · rw [if_pos h] at e
      cases e
      rw [r.str]
      refine ⟨by rw [S_len]; exact szl_le h, ?_⟩
      rw [S_len]
      cases w <;> simp
      omega
    · rw [if_neg h] at e; cases e
  | lst l =>
    cases e
    obtain ⟨a, xs, rfl, h1, h2⟩ := r.lst s
    exact .inl ⟨xs, SqL.of h1, by rw [h2.emp]⟩
  | tup l =>
    cases e
    obtain ⟨a, xs, rfl, h1, h2⟩ := r.tup s
    exact .inr (.inl ⟨xs, SqT.of h1, by rw [h2.emp]⟩)
  | ob c l => cases e
  | scr l => cases e
  | xn o x => cases e
def fNot (m : Sm Bool) : Sm Bool := bnd m fun b e => some (.ok (!b) e)
def fAnd (m n : Sm Bool) : Sm Bool := bnd m fun b e => match b with
  | true => n e
  | false => some (.ok false e)
def fOr (m n : Sm Bool) : Sm Bool := bnd m fun b e => match b with
  | true => some (.ok true e)
  | false => n e
def fIf {α : Type} (t : Sm Bool) (m n : Sm α) : Sm α := bnd t fun b e => match b with
  | true => m e
  | false => n e
def fBl (m : Sm D) : Sm Bool := bnd m fun d e => match d with
  | .bl b => some (.ok b e)
  | _ => none
def fNotV (m : Sm D) : Sm D := bnd m fun d e => match d with
  | .bl b => some (.ok (.bl (!b)) e)
  | _ => none
def fAndV (m n : Sm D) : Sm D := bnd m fun d e => match d with
  | .bl true => n e
  | .bl false => some (.ok (.bl false) e)
  | _ => none
def fOrV (m n : Sm D) : Sm D := bnd m fun d e => match d with
  | .bl true => some (.ok (.bl true) e)
  | .bl false => n e
  | _ => none
section
variable {X : Cx} {κ : Kx} {W : WX} {a b c : Expr} {ma mb mc : Sm D} {mt mu : Sm Bool} {rest : List Expr} {pos : Pos}
theorem t_tru (hK : X.K = κ.K) (ha : PE X a (tX κ W (RB κ) ma)) (he : ∀ whole, isTrue a X.env whole = (do let v ← whole; standAt a.pos; holding [v] (truthy v)) := by intro _; rfl) : PT X a (tX κ W RT (fTru ma)) :=
  PT.imp (pt_truth ha he) fun σ H Q ⟨G, env, r, q⟩ => bind_post r q fun d e1 v H1 G1 em r1 rv s1 f1 q1 => by
    cases w : truD d with
    | none => rw [w] at q1; exact q1.elim
    | some b =>
      rw [w] at q1
      exact ⟨b, by rw [hK]; exact tru_of r1.sub rv w, post_tt r1 q1⟩
theorem t_not (ha : PT X a (tX κ W RT mt)) : PT X (.UnaryOp .Not a pos) (tX κ W RT (fNot mt)) := PT.imp (pt_not ha) fun σ H Q ⟨G, env, r, q⟩ => bind_post r q fun d e1 v H1 G1 em r1 rv s1 f1 q1 => by
  cases rv
  exact post_tt r1 q1
theorem w_and1 (ha : PT X a (tX κ W RT mt)) : PW X (.BoolOp .And [a] pos) (tX κ W RT mt) := pw_and1 ha
theorem w_or1 (ha : PT X a (tX κ W RT mt)) : PW X (.BoolOp .Or [a] pos) (tX κ W RT mt) := pw_or1 ha
theorem w_and (ha : PT X a (tX κ W RT mt)) (hb : PW X (.BoolOp .And (b :: rest) pos) (tX κ W RT mu)) : PW X (.BoolOp .And (a :: b :: rest) pos) (tX κ W RT (fAnd mt mu)) := PW.imp (pw_and ha hb) fun σ H Q ⟨G, env, r, q⟩ => bind_post r q fun d e1 v H1 G1 em r1 rv s1 f1 q1 => by
  cases rv
  cases d with
  | true => exact ⟨G1, e1, r1, q1⟩
  | false => exact post_tt r1 q1
theorem w_or (ha : PT X a (tX κ W RT mt)) (hb : PW X (.BoolOp .Or (b :: rest) pos) (tX κ W RT mu)) : PW X (.BoolOp .Or (a :: b :: rest) pos) (tX κ W RT (fOr mt mu)) := PW.imp (pw_or ha hb) fun σ H Q ⟨G, env, r, q⟩ => bind_post r q fun d e1 v H1 G1 em r1 rv s1 f1 q1 => by
  cases rv
  cases d with
  | false => exact ⟨G1, e1, r1, q1⟩
  | true => exact post_tt r1 q1
theorem v_if (ht : PT X c (tX κ W RT mt)) (ha : PE X a (tX κ W (RP κ) ma)) (hb : PE X b (tX κ W (RP κ) mb)) : PE X (.IfExp c a b pos) (tX κ W (RP κ) (fIf mt ma mb)) := PE.imp (pe_ifExp ht ha hb) fun σ H Q ⟨G, env, r, q⟩ => bind_post r q fun d e1 v H1 G1 em r1 rv s1 f1 q1 => by
  cases rv
  cases d with
  | true => exact ⟨G1, e1, r1, q1⟩
  | false => exact ⟨G1, e1, r1, q1⟩
theorem v_one {op : BoolOp} (h : PE X a (tX κ W (RP κ) ma)) : PE X (.BoolOp op [a] pos) (tX κ W (RP κ) ma) := pe_one h
theorem v_and (ha : PE X a (tX κ W (RP κ) ma)) (hb : PE X (.BoolOp .And (b :: rest) pos) (tX κ W (RP κ) mb)) : PE X (.BoolOp .And (a :: b :: rest) pos) (tX κ W (RP κ) (fAndV ma mb)) := PE.imp (pe_and ha hb) fun σ H Q ⟨G, env, r, q⟩ => bind_post r q fun d e1 v H1 G1 em r1 rv s1 f1 q1 => by
  cases d <;> try (cases q1; done)
  cases rv
  rename_i k
  refine ⟨k, rfl, ?_⟩
  cases k with
  | true => exact ⟨G1, e1, r1, q1⟩
  | false => exact q1 _ H1 G1 r1 (.bl false) (Same.refl _) Fr.refl
theorem v_or (ha : PE X a (tX κ W (RP κ) ma)) (hb : PE X (.BoolOp .Or (b :: rest) pos) (tX κ W (RP κ) mb)) : PE X (.BoolOp .Or (a :: b :: rest) pos) (tX κ W (RP κ) (fOrV ma mb)) := PE.imp (pe_or ha hb) fun σ H Q ⟨G, env, r, q⟩ => bind_post r q fun d e1 v H1 G1 em r1 rv s1 f1 q1 => by
  cases d <;> try (cases q1; done)
  cases rv
  rename_i k
  refine ⟨k, rfl, ?_⟩
  cases k with
  | false => exact ⟨G1, e1, r1, q1⟩
  | true => exact q1 _ H1 G1 r1 (.bl true) (Same.refl _) Fr.refl
theorem v_not (ha : PE X a (tX κ W (RP κ) ma)) : PE X (.UnaryOp .Not a pos) (tX κ W (RP κ) (fNotV ma)) := PE.imp (pe_not ha) fun σ H Q ⟨G, env, r, q⟩ => bind_post r q fun d e1 v H1 G1 em r1 rv s1 f1 q1 => by
  cases d <;> try (cases q1; done)
  cases rv
  rename_i k
  exact ⟨k, rfl, q1 _ H1 G1 r1 (.bl _) (Same.refl _) Fr.refl⟩
def fNeg (m : Sm D) : Sm D := bnd m fun d e => match d with
  | .int i => some (.ok (.int (-i)) e)
  | _ => none
theorem v_neg (ha : PE X a (tX κ W (RP κ) ma)) : PE X (.UnaryOp .USub a pos) (tX κ W (RP κ) (fNeg ma)) := PE.imp (pe_un un_neg ha) fun σ H Q ⟨G, env, r, q⟩ => bind_post r q fun d e1 v H1 G1 em r1 rv s1 f1 q1 => by
  cases d <;> try (cases q1; done)
  cases rv
  exact ⟨_, rfl, q1 _ H1 G1 r1 (.int _) (Same.refl _) Fr.refl⟩
theorem t_chain {op op' : CmpOp} {r r' : R2} {f g : D → D → Option Bool} (ho : OpR X (compareOp op) r) (hs : OpB κ r f) (ho' : OpR X (compareOp op') r') (hs' : OpB κ r' g) (ha : PE X a (tX κ W (RB κ) ma)) (hb : PE X b (tX κ W (RB κ) mb)) (hc : PE X c (tX κ W (RB κ) mc))
    (hm : lastMarks [op, op'] [b, c] = false := by with_unfolding_all rfl) : PT X (.Compare a [op, op'] [b, c] pos) (tX κ W RT (fCh f g ma mb mc)) := PT.imp (pt_chain ho ho' ha hb hc hm) fun σ H Q ⟨G, env, rp, q⟩ => by
  refine bind_post rp q fun dx e1 x H1 G1 _ rp1 rx s1 f1 q1 => ?_
  refine bind_post rp1 q1 fun dy e2 y H2 G2 _ rp2 ry s2 f2 q2 => ?_
  cases z : f dx dy with
  | none => rw [z] at q2; exact q2.elim
  | some w =>
    rw [z] at q2
    refine hs x y dx dy w H2 G2 _ z rp2.sub (RBq.mono s2 f2.gk rx) ry ⟨w, rfl, ?_⟩
    cases w with
    | false => exact ⟨false, rfl, post_tt rp2 q2⟩
    | true =>
      refine bind_post rp2 q2 fun dz e3 u H3 G3 _ rp3 ru s3 f3 q3 => ?_
      cases z3 : g dy dz with
      | none => rw [z3] at q3; exact q3.elim
      | some k =>
        rw [z3] at q3
        exact hs' y u dy dz k H3 G3 _ z3 rp3.sub (RBq.mono s3 f3.gk ry) ru ⟨k, rfl, post_tt rp3 q3⟩
end
/-! ### slots stored -/
def Rs.sl : Rs → Sl
  | .sh d => .sh d
  | .ow l => .ow l
section
variable {κ : Kx} {W : WX} {σ : L2.St} {H G H0 G0 : Hp} {env env0 : En} {v : V}
theorem Rep.put (r : Rep κ H G σ env) {i : Nat} (hi : i < env.length) {z : Rs} {N : Addr → Prop} (h : RV κ σ N H G env v z) : Rep κ H G (σ.set i (some v)) (env.set i z.sl) := by
  have hσ : i < σ.length := by rw [r.len]; exact hi
  have look : ∀ {j : Nat} {s : Sl}, (env.set i z.sl)[j]? = some s → (j = i ∧ s = z.sl) ∨ (i ≠ j ∧ env[j]? = some s) := fun {j s} e => by
    by_cases w : i = j
    · subst w
      rw [List.getElem?_set_self hi] at e
      cases e
      exact .inl ⟨rfl, rfl⟩
    · rw [List.getElem?_set_ne w] at e
      exact .inr ⟨w, e⟩
  have vs : ∀ {j : Nat} {u : V}, (σ.set i (some v))[j]? = some (some u) → (j = i ∧ u = v) ∨ (i ≠ j ∧ σ[j]? = some (some u)) := fun {j u} e => by
    by_cases w : i = j
    · subst w
      rw [List.getElem?_set_self hσ] at e
      cases e
      exact .inl ⟨rfl, rfl⟩
    · rw [List.getElem?_set_ne w] at e
      exact .inr ⟨w, e⟩
  have ownN : ∀ {j : Nat} {a : Addr}, Own (σ.set i (some v)) (env.set i z.sl) j a → (j = i ∧ v = .ref a ∧ ∃ l, z = .ow l) ∨ (i ≠ j ∧ Own σ env j a) := fun {j a} o => by
    obtain ⟨e, l, h1 | h1⟩ := o
    · rcases look h1 with ⟨w, e1⟩ | ⟨w, e1⟩
      · subst w
        rcases vs e with ⟨_, e2⟩ | ⟨w2, _⟩
        · cases z with
          | sh d => cases e1
          | ow m => exact .inl ⟨rfl, e2.symm, m, rfl⟩
        · exact (w2 rfl).elim
      · rcases vs e with ⟨w2, _⟩ | ⟨_, e2⟩
        · exact (w w2.symm).elim
        · exact .inr ⟨w, e2, l, .inl e1⟩
    · rcases look h1 with ⟨w, e1⟩ | ⟨w, e1⟩
      · cases z <;> cases e1
      · rcases vs e with ⟨w2, _⟩ | ⟨_, e2⟩
        · exact (w w2.symm).elim
        · exact .inr ⟨w, e2, l, .inr e1⟩
  have freO : ∀ {a : Addr} {l : List D}, v = .ref a → z = .ow l → Fre σ env a := fun {a l} e1 e2 => by
    subst e2
    obtain ⟨b, xs, e3, _, _, _, f, _⟩ := h
    rw [e1] at e3
    cases e3
    exact f
  refine ⟨r.sub, by rw [List.length_set, List.length_set]; exact r.len, fun j s e => ?_, fun j k a o1 o2 => ?_, fun j a o k l e1 e2 => ?_⟩
  · rcases look e with ⟨rfl, rfl⟩ | ⟨w, e1⟩
    · rw [List.getElem?_set_self hσ]
      cases z with
      | sh d => exact ⟨v, rfl, h⟩
      | ow l =>
        obtain ⟨a, xs, e1, h1, h2, h3, _⟩ := h
        exact ⟨a, xs, by rw [e1], h1, h2, h3⟩
    · rw [List.getElem?_set_ne w]
      exact r.slot j s e1
  · rcases ownN o1 with ⟨rfl, e1, l1, z1⟩ | ⟨w1, o1'⟩
    · rcases ownN o2 with ⟨rfl, _⟩ | ⟨w2, o2'⟩
      · rfl
      · exact ((freO e1 z1).1 k o2').elim
    · rcases ownN o2 with ⟨rfl, e2, l2, z2⟩ | ⟨w2, o2'⟩
      · exact ((freO e2 z2).1 j o1').elim
      · exact r.inj j k a o1' o2'
  · rcases look e2 with ⟨rfl, e3⟩ | ⟨w, e3⟩
    · cases z <;> cases e3
    · rcases vs e1 with ⟨w2, _⟩ | ⟨_, e4⟩
      · exact w w2.symm
      · rcases ownN o with ⟨rfl, e5, l5, z5⟩ | ⟨_, o'⟩
        · exact (freO e5 z5).2 k l e4 e3
        · exact r.nbo j a o' k l e4 e3
theorem Fr.put (r : Rep κ H G σ env) {i : Nat} (hi : i < env.length) {z : Rs} (h : RV κ σ (Nw H0 σ env0) H G env v z) (f : Fr H0 G0 σ env0 H G σ env) : Fr H0 G0 σ env0 H G (σ.set i (some v)) (env.set i z.sl) where
  hk := f.hk
  gk := f.gk
  gn := f.gn
  mm := fun a o e m => by
    obtain ⟨j, l, e1, e2⟩ := m
    have hσ : i < σ.length := by rw [r.len]; exact hi
    by_cases w : i = j
    · subst w
      rw [List.getElem?_set_self hσ] at e1
      rw [List.getElem?_set_self hi] at e2
      cases z with
      | sh d => cases e2
      | ow m =>
        obtain ⟨b, xs, e3, _, _, _, _, n⟩ := h
        cases e1
        cases e3
        exact n o e
    · rw [List.getElem?_set_ne w] at e1 e2
      exact f.mm a o e ⟨j, l, e1, e2⟩
  lk := fun j l hf e => by
    have hσ : i < σ.length := by rw [r.len]; exact hi
    by_cases w : i = j
    · subst w
      rw [List.getElem?_set_self hi] at e
      cases z <;> cases e <;> cases hf
    · rw [List.getElem?_set_ne w] at e ⊢
      exact f.lk j l hf e
end
/-! ### statements -/
def sNil : Ss := fun e => some (.nx e)
def sSeq (m n : Ss) : Ss := fun e => match m e with
  | some (.nx e1) => n e1
  | o => o
def sDrop (m : Sm Rs) : Ss := sbnd m fun _ e => some (.nx e)
def sAsg (i : Nat) (m : Sm Rs) : Ss := sbnd m fun r e => if i < e.length then some (.nx (e.set i r.sl)) else none
def sRet (m : Sm Rs) : Ss := sbnd m fun r _ => some (.rt r)
def sRetV (i : Nat) : Ss := fun e => match e[i]? with
  | some (.sh d) => some (.rt (.sh d))
  | some (.ow l) => some (.rt (.ow l))
  | _ => none
def sRetN : Ss := fun _ => some (.rt (.sh .non))
def sIf (t : Sm Bool) (m n : Ss) : Ss := sbnd t fun b e => match b with
  | true => m e
  | false => n e
def sBrk : Ss := fun e => some (.bk e)
def sCnt : Ss := fun e => some (.ct e)
section
variable {X : Cx} {κ : Kx} {W : WX} {a b c e : Expr} {st : Stmt} {sts su : List Stmt} {m n : Ss} {mr : Sm Rs} {md : Sm D} {mt : Sm Bool} {pos pos' : Pos}
theorem s_nil : PSs X [] (tS κ W sNil) := PSs.imp pss_nil fun D σ H ⟨G, env, r, q⟩ => q σ H G r Fr.refl
theorem s_cons (h1 : PS X st (tS κ W m)) (h2 : PSs X sts (tS κ W n)) : PSs X (st :: sts) (tS κ W (sSeq m n)) := PSs.imp (pss_cons h1 h2) fun D σ H ⟨G, env, r, q⟩ => by
  refine ⟨G, env, r, ?_⟩
  unfold sSeq at q
  cases z : m env with
  | none => rw [z] at q; exact q
  | some o => cases o with
    | nx e1 =>
      rw [z] at q
      exact fun σ' H' G' r' f => ⟨G', e1, r', SPost.shift f q⟩
    | bk e1 => rw [z] at q; exact q
    | ct e1 => rw [z] at q; exact q
    | rt r1 => rw [z] at q; exact q
    | ex x e1 => rw [z] at q; exact q
theorem s_one (h1 : PS X st (tS κ W m)) : PSs X [st] (tS κ W m) := pss_one h1
theorem s_pass : PS X (.Pass pos) (tS κ W sNil) := PS.imp ps_pass fun D σ H ⟨G, env, r, q⟩ => q σ H G r Fr.refl
theorem s_brk : PS X (.Break pos) (tS κ W sBrk) := PS.imp ps_break fun D σ H ⟨G, env, r, q⟩ => q σ H G r Fr.refl
theorem s_cnt : PS X (.Continue pos) (tS κ W sCnt) := PS.imp ps_continue fun D σ H ⟨G, env, r, q⟩ => q σ H G r Fr.refl
theorem s_drop (h : PE X e (tX κ W (RV κ) mr)) (hs : swapsWith e none pos.line X.env = pure false := by rfl) : PS X (.Expr e pos) (tS κ W (sDrop mr)) := PS.imp (ps_expr h hs) fun D σ H ⟨G, env, r, q⟩ => sbind_post r q fun z e1 v H1 G1 _ r1 rv s1 f1 q1 => q1 σ H1 G1 r1 Fr.refl
theorem s_asg {i : Nat} {x : Str} (hN : X.N.Nodup) (hi : X.N[i]? = some x) (hx : Loc X.env.scope x) (h : PE X e (tX κ W (RV κ) mr)) (hs : swapsWith e (some (.Name x pos')) pos.line X.env = pure false := by rfl)
    (hf : X.fn x = true ∨ X.env.scope.names.lookup x = some .local := by first | exact .inl rfl | exact .inr rfl | assumption) : PS X (.Assign [.Name x pos'] e pos) (tS κ W (sAsg i mr)) := PS.imp (ps_set hN hi hx h hs hf) fun D σ H ⟨G, env, r, q⟩ => by
  refine ⟨G, env, r, ?_⟩
  unfold sAsg sbnd at q
  cases w : mr env with
  | none => rw [w] at q; exact q
  | some o => cases o with
    | ex x e1 =>
      rw [w] at q
      exact fun c d H' G' a b _ g => q c d σ H' G' a b g
    | ok z e1 =>
      rw [w] at q
      intro v H1 G1 r1 rv s1 f1
      by_cases hl : i < e1.length
      · dsimp only at q
        rw [if_pos hl] at q
        exact q _ H1 G1 (r1.put hl rv) (f1.put r1 hl rv)
      · dsimp only at q
        rw [if_neg hl] at q; exact q.elim
theorem s_ret (h : PE X e (tX κ W (RV κ) mr)) : PS X (.Return (some e) pos) (tS κ W (sRet mr)) := PS.imp (ps_ret h) fun D σ H ⟨G, env, r, q⟩ => by
  refine ⟨G, env, r, ?_⟩
  unfold sRet sbnd at q
  cases w : mr env with
  | none => rw [w] at q; exact q
  | some o => cases o with
    | ex x e1 =>
      rw [w] at q
      exact fun c d H' G' a b _ g => q c d σ H' G' a b g
    | ok z e1 =>
      rw [w] at q
      intro v H1 G1 r1 rv s1 f1
      refine q v H1 G1 r1.sub ?_ ⟨f1.hk, f1.gk, f1.gn⟩
      cases z with
      | sh d => exact rv
      | ow l =>
        obtain ⟨a, xs, h1, h2, h3, h4, h5, h6⟩ := rv
        exact ⟨a, xs, h1, h2, h3, h4, h6⟩
theorem s_retV {i : Nat} {x : Str} (h : PE X (.Name x pos') (tVar i)) : PS X (.Return (some (.Name x pos')) pos) (tS κ W (sRetV i)) := PS.imp (ps_ret h) fun D σ H ⟨G, env, r, q⟩ => by
  unfold sRetV at q
  have fr : FrR H G σ env H G := ⟨fun _ _ h _ => h, Same.refl _, fun _ _ _ h _ => h⟩
  cases z : env[i]? with
  | none => rw [z] at q; exact q.elim
  | some s =>
    have rs := r.slot i s z
    rw [z] at q
    cases s with
    | un => exact q.elim
    | sh d =>
      obtain ⟨v, h1, h2⟩ := rs
      exact ⟨v, h1, q v H G r.sub h2 fr⟩
    | ow l =>
      obtain ⟨a, xs, h1, h2, h3, h4⟩ := rs
      exact ⟨_, h1, q _ H G r.sub ⟨a, xs, rfl, h2, h3, h4, fun o _ => ⟨i, l, h1, z⟩⟩ fr⟩
    | lk l => exact q.elim
    | bo l => exact q.elim
theorem s_retN : PS X (.Return none pos) (tS κ W sRetN) := PS.imp ps_retN fun D σ H ⟨G, env, r, q⟩ => q .non H G r.sub .non ⟨fun _ _ h _ => h, Same.refl _, fun _ _ _ h _ => h⟩
theorem s_if (ht : PT X c (tX κ W RT mt)) (h1 : PSs X sts (tS κ W m)) (h2 : PSs X su (tS κ W n)) : PS X (.If c sts su pos) (tS κ W (sIf mt m n)) := PS.imp (ps_if ht h1 h2) fun D σ H ⟨G, env, r, q⟩ => sbind_post r q fun z e1 v H1 G1 _ r1 rv s1 f1 q1 => by
  cases rv
  cases z with
  | true => exact ⟨G1, e1, r1, q1⟩
  | false => exact ⟨G1, e1, r1, q1⟩
end

/-! ### own lists changed -/
section
variable {κ : Kx} {W : WX} {σ : L2.St} {H G : Hp} {env : En} {v : V}
/-- the own list at slot i holds something else from here on -/
theorem Rep.chg (r : Rep κ H G σ env) {i : Nat} {l l' : List D} {a : Addr} {ys : List V} (e : env[i]? = some (.ow l)) (ea : σ[i]? = some (some (.ref a))) (h : RpA κ G ys l') :
    Rep κ (upd H a (.lst ys)) G σ (env.set i (.ow l')) ∧ Fr H G σ env (upd H a (.lst ys)) G σ (env.set i (.ow l')) := by
  obtain ⟨b, xs, h1, h2, h3, h4⟩ := r.slot i _ e
  rw [ea] at h1
  cases h1
  have me : Own σ env i a := ⟨ea, l, .inl e⟩
  have hi : i < env.length := (List.getElem?_eq_some_iff.mp e).1
  have back : ∀ {j : Nat} {b : Addr}, Own σ (env.set i (.ow l')) j b → Own σ env j b := fun {j b} o => by
    obtain ⟨q, m, z⟩ := o
    by_cases w : i = j
    · subst w
      exact ⟨q, l, .inl e⟩
    · rw [List.getElem?_set_ne w] at z
      exact ⟨q, m, z⟩
  refine ⟨⟨same_upd r.sub h3, by rw [List.length_set]; exact r.len, fun j s q => ?_, fun j k b o1 o2 => r.inj j k b (back o1) (back o2), fun j b o k m q1 q2 => ?_⟩, ⟨fun b o q m => ?_, Same.refl _, fun b o q g m => g, fun b o q m => ?_, fun j m hf q => ?_⟩⟩
  · by_cases w : i = j
    · subst w
      rw [List.getElem?_set_self hi] at q
      cases q
      exact ⟨a, ys, ea, upd_same, h3, h⟩
    · rw [List.getElem?_set_ne w] at q
      have t := r.slot j s q
      have far : ∀ {b : Addr}, σ[j]? = some (some (.ref b)) → (∃ l, env[j]? = some (.ow l) ∨ env[j]? = some (.lk l)) → b ≠ a := fun hb hl z => w (r.inj i j a me (z ▸ ⟨hb, hl⟩))
      cases s with
      | un => trivial
      | sh d => exact t
      | ow m =>
        obtain ⟨b, zs, t1, t2, t3, t4⟩ := t
        exact ⟨b, zs, t1, by rw [upd_ne (far t1 ⟨m, .inl q⟩)]; exact t2, t3, t4⟩
      | lk m =>
        obtain ⟨b, zs, t1, t2, t3, t4⟩ := t
        exact ⟨b, zs, t1, by rw [upd_ne (far t1 ⟨m, .inr q⟩)]; exact t2, t3, t4⟩
      | bo m =>
        obtain ⟨b, zs, t1, t2, t4⟩ := t
        have n : b ≠ a := fun z => r.nbo i a me j m (z ▸ t1) q
        exact ⟨b, zs, t1, by rw [upd_ne n]; exact t2, t4⟩
  · by_cases w : i = k
    · subst w
      rw [List.getElem?_set_self hi] at q2
      cases q2
    · rw [List.getElem?_set_ne w] at q2
      exact r.nbo j b (back o) k m q1 q2
  · have n : b ≠ a := fun z => m ⟨i, l, z ▸ ea, e⟩
    rw [upd_ne n]
    exact q
  · obtain ⟨j, k, e1, e2⟩ := m
    by_cases w : i = j
    · subst w
      exact ⟨i, l, e1, e⟩
    · rw [List.getElem?_set_ne w] at e2
      exact ⟨j, k, e1, e2⟩
  · by_cases w : i = j
    · subst w
      rw [List.getElem?_set_self hi] at q
      cases q
      cases hf
    · rw [List.getElem?_set_ne w] at q
      exact ⟨q, rfl⟩
end
/-- an own list, unlocked, stands in slot i -/
def sOwn (i : Nat) (s : Ss) : Ss := fun e => match e[i]? with
  | some (.ow _) => s e
  | _ => none
/-- xs.append(e) -/
def sApp (i : Nat) (m : Sm D) : Ss := sOwn i (sbnd m fun d e => match e[i]? with
  | some (.ow l) => if l.length < szl then some (.nx (e.set i (.ow (l ++ [d])))) else none
  | _ => none)
/-- xs.extend(e) -/
def sExt (i : Nat) (m : Sm D) : Ss := sOwn i (sbnd m fun d e => match d with
  | .lst k => match e[i]? with
    | some (.ow l) => if l.length + k.length ≤ szl then some (.nx (e.set i (.ow (l ++ k)))) else none
    | _ => none
  | _ => none)
def opSetI (l : List D) (i : Int) (d : D) : Option (List D) := match ixN l.length i with
  | some j => some (l.set j d)
  | none => none
/-- xs[j] = e -/
def sSetI (i : Nat) (mj m : Sm D) : Ss := sbnd m fun d => sOwn i (sbnd mj fun j e => match j with
  | .int z => match e[i]? with
    | some (.ow l) => match opSetI l z d with
      | some k => some (.nx (e.set i (.ow k)))
      | none => none
    | _ => none
  | _ => none)
theorem sOwn_of {κ : Kx} {W : WX} {σ : L2.St} {H G : Hp} {env : En} {i : Nat} {s : Ss} {D0 : Ends} (q : SPost κ W σ H G env (sOwn i s env) D0) : ∃ l, env[i]? = some (.ow l) ∧ SPost κ W σ H G env (s env) D0 := by
  unfold sOwn at q
  cases z : env[i]? with
  | none => rw [z] at q; exact q.elim
  | some o =>
    rw [z] at q
    cases o with
    | ow l => exact ⟨l, rfl, q⟩
    | _ => exact q.elim
section
variable {X : Cx} {κ : Kx} {W : WX} {a b c e : Expr} {m : Sm D} {mj : Sm D} {pos pos' p2 : Pos}
theorem ow_at {i : Nat} {σ : L2.St} {H G : Hp} {env : En} {l : List D} (r : Rep κ H G σ env) (e : env[i]? = some (.ow l)) : ∃ a xs, σ[i]? = some (some (.ref a)) ∧ H a = some (.lst xs) ∧ RpA κ G xs l := by
  obtain ⟨a, xs, h1, h2, h3, h4⟩ := r.slot i _ e
  exact ⟨a, xs, h1, h2, h4⟩
/-- o.m(e) as a statement, o an own list's name: the reading of the method's call -/
theorem own_call {r : V → List V → Hp → VK → Prop} {R : Rl D V} {i : Nat} {f : D → Ss} {D0 : Ends} {σ : L2.St} {H G : Hp} {env : En} (rp : Rep κ H G σ env) (hq : SPost κ W σ H G env (sOwn i (sbnd m f) env) D0)
    (k : ∀ d e1 v a H1 G1, Rep κ H1 G1 σ e1 → R σ (Nw H σ env) H1 G1 e1 v d → σ[i]? = some (some (.ref a)) → SPost κ W σ H1 G1 e1 (f d e1) D0 → r (.ref a) [v] H1 fun _ H2 => D0.nx σ H2) :
    tDrop (tBM κ.K "list" r (tVar i) (tCons (tX κ W R m) tNil)) D0 σ H := by
  obtain ⟨l0, e0, hq⟩ := sOwn_of hq
  obtain ⟨a, xs, h1, h2, h3⟩ := ow_at rp e0
  refine ⟨_, h1, .inl ⟨rfl, xs, SqL.of h2⟩, ?_⟩
  exact sbind_post rp hq fun d e1 v H1 G1 em r1 rv s1 f1 q1 => k d e1 v a H1 G1 r1 rv h1 q1
theorem s_app {x : Str} {i : Nat} {apos cpos : Pos} (hK : X.K = κ.K) (hx : PE X (.Name x pos') (tVar i)) (he : PE X e (tX κ W (RP κ) m))
    (hs : swapsWith (.Call (.Attribute (.Name x pos') "append" apos) [e] [] cpos) none pos.line X.env = pure false := by rfl)
    (hbase : attributeBase (.Name x pos') "append" X.env (eval (.Name x pos') X.env) = eval (.Name x pos') X.env := by rfl)
    (hfew : ((backTo cpos (starEach [e] X.env)).all (fun x => !x.1) && (backToKw cpos (keywordEach [] X.env)).all (fun x => x.1.isSome)
      && decide (([e] : List Expr).length + ([] : List Keyword).length + (if ([] : List Keyword).isEmpty then 0 else 1) < 30)) = true := by rfl)
    (hline : (apos.endLine == cpos.line) = true := by rfl) (hst : starEach [e] X.env = (false, eval e X.env) :: starEach [] X.env := by rfl) (hplain : (backTo cpos (starEach [] X.env)).any (·.1) = false := by rfl) :
    PS X (.Expr (.Call (.Attribute (.Name x pos') "append" apos) [e] [] cpos) pos) (tS κ W (sApp i m)) :=
  PS.imp (ps_expr (pe_bm PySem.F.plainAttrs_list PySem.F.slot_list_append PySem.F.type_list_append mt_append hx (pa_cons he pa_nil hst) hbase hfew hline hst hplain) hs) fun D σ H ⟨G, env, r, q⟩ => by
    rw [hK]
    refine own_call r q fun d e1 v a H1 G1 r1 rv ha q1 => ?_
    cases z : e1[i]? with
    | none => rw [z] at q1; exact q1.elim
    | some o =>
      rw [z] at q1
      cases o with
      | ow l =>
        dsimp only at q1
        by_cases hl : l.length < szl
        · rw [if_pos hl] at q1
          obtain ⟨b, ys, g1, g2, g3⟩ := ow_at r1 z
          rw [ha] at g1
          cases g1
          obtain ⟨rep, fr⟩ := r1.chg z ha (g3.append (.cons rv .nil))
          exact ⟨a, ys, v, rfl, rfl, g2, by rw [g3.length]; exact szl_lt (Nat.le_of_lt hl), q1 σ _ G1 rep fr⟩
        · rw [if_neg hl] at q1; exact q1.elim
      | _ => exact q1.elim
theorem s_ext {x : Str} {i : Nat} {apos cpos : Pos} (hK : X.K = κ.K) (hx : PE X (.Name x pos') (tVar i)) (he : PE X e (tX κ W (RP κ) m))
    (hs : swapsWith (.Call (.Attribute (.Name x pos') "extend" apos) [e] [] cpos) none pos.line X.env = pure false := by rfl)
    (hbase : attributeBase (.Name x pos') "extend" X.env (eval (.Name x pos') X.env) = eval (.Name x pos') X.env := by rfl)
    (hfew : ((backTo cpos (starEach [e] X.env)).all (fun x => !x.1) && (backToKw cpos (keywordEach [] X.env)).all (fun x => x.1.isSome)
      && decide (([e] : List Expr).length + ([] : List Keyword).length + (if ([] : List Keyword).isEmpty then 0 else 1) < 30)) = true := by rfl)
    (hline : (apos.endLine == cpos.line) = true := by rfl) (hst : starEach [e] X.env = (false, eval e X.env) :: starEach [] X.env := by rfl) (hplain : (backTo cpos (starEach [] X.env)).any (·.1) = false := by rfl) :
    PS X (.Expr (.Call (.Attribute (.Name x pos') "extend" apos) [e] [] cpos) pos) (tS κ W (sExt i m)) :=
  PS.imp (ps_expr (pe_bm PySem.F.plainAttrs_list PySem.F.slot_list_extend PySem.F.type_list_extend mt_extend hx (pa_cons he pa_nil hst) hbase hfew hline hst hplain) hs) fun D σ H ⟨G, env, r, q⟩ => by
    rw [hK]
    refine own_call r q fun d e1 v a H1 G1 r1 rv ha q1 => ?_
    cases d with
    | lst k =>
      cases z : e1[i]? with
      | none => dsimp only at q1; rw [z] at q1; exact q1.elim
      | some o =>
        dsimp only at q1
        rw [z] at q1
        cases o with
        | ow l =>
          dsimp only at q1
          by_cases hl : l.length + k.length ≤ szl
          · rw [if_pos hl] at q1
            obtain ⟨b, ys, g1, g2, g3⟩ := ow_at r1 z
            rw [ha] at g1
            cases g1
            obtain ⟨c, zs, rfl, h5, h6⟩ := RBq.lst r1.sub (.inl rv)
            obtain ⟨rep, fr⟩ := r1.chg z ha (g3.append h6)
            exact ⟨a, c, ys, zs, rfl, rfl, g2, h5, by rw [g3.length, h6.length]; exact szl_le hl, q1 σ _ G1 rep fr⟩
          · rw [if_neg hl] at q1; exact q1.elim
        | _ => exact q1.elim
    | _ => exact q1.elim
theorem s_setI {x : Str} {i : Nat} {ei : Expr} (hx : PE X (.Name x pos') (tVar i)) (hi : PE X ei (tX κ W (RB κ) mj)) (he : PE X e (tX κ W (RP κ) m)) 
    (hg : PG X (.Subscript (.Name x pos') ei p2) (gSub (tVar i) (tX κ W (RB κ) mj) rSetL))
    (hs : swapsWithSole [.Subscript (.Name x pos') ei p2] e pos.line X.env = pure false := by rfl) (hw : swappedStores [.Subscript (.Name x pos') ei p2] e X.env = pure none := by rfl) :
    PS X (.Assign [.Subscript (.Name x pos') ei p2] e pos) (tS κ W (sSetI i mj m)) := PS.imp (ps_asg he hg hs hw) fun D σ H ⟨G, env, r, q⟩ => by
  refine sbind_post r q fun d e1 v H1 G1 em r1 rv s1 f1 q1 => ?_
  obtain ⟨l0, e0, q1⟩ := sOwn_of q1
  obtain ⟨a, xs, h1, h2, h3⟩ := ow_at r1 e0
  refine ⟨_, h1, ?_⟩
  refine sbind_post r1 q1 fun j e2 u H2 G2 em2 r2 ru s2 f2 q2 => ?_
  cases j with
  | int t =>
    cases z : e2[i]? with
    | none => dsimp only at q2; rw [z] at q2; exact q2.elim
    | some o =>
      dsimp only at q2
      rw [z] at q2
      cases o with
      | ow l =>
        dsimp only at q2
        obtain ⟨b, ys, g1, g2, g3⟩ := ow_at r2 z
        rw [h1] at g1
        cases g1
        cases w : opSetI l t d with
        | none => rw [w] at q2; exact q2.elim
        | some k =>
          rw [w] at q2
          dsimp only at q2
          unfold opSetI at w
          cases w2 : ixN l.length t with
          | none => rw [w2] at w; cases w
          | some n =>
            rw [w2] at w
            cases w
            obtain ⟨rep, fr⟩ := r2.chg z h1 (g3.set (rv.mono f2.gk) n)
            exact ⟨a, ys, t, n, rfl, RBq.int ru, g2, by rw [g3.length]; exact w2, q2 σ _ G2 rep fr⟩
      | _ => exact q2.elim
  | _ => exact q2.elim
end
/-! ### several names -/
def setAll : List Nat → List D → En → Option En
  | [], [], e => some e
  | i :: is, d :: ds, e => if i < e.length then setAll is ds (e.set i (.sh d)) else none
  | _, _, _ => none
def gNames : List Nat → TGs
  | [] => gNil
  | i :: is => gCons (gName i) (gNames is)
/-- a target's reading serves its function -/
def TgOk (κ : Kx) (g : TG) (f : D → En → Option En) : Prop := ∀ (v : V) (d : D) (σ : L2.St) (H G : Hp) (env e1 : En) (Q : L2.St → Hp → Prop), f d env = some e1 → Rep κ H G σ env → Rp κ G v d → (∀ σ1, Rep κ H G σ1 e1 → Fr H G σ env H G σ1 e1 → Q σ1 H) → g v σ H Q
section
variable {κ : Kx} {W : WX} {X : Cx}
theorem rep_sh {H G : Hp} {σ : L2.St} {env : En} {i : Nat} {v : V} {d : D} (r : Rep κ H G σ env) (hi : i < env.length) (h : Rp κ G v d) : Rep κ H G (σ.set i (some v)) (env.set i (.sh d)) ∧ Fr H G σ env H G (σ.set i (some v)) (env.set i (.sh d)) := by
  have h' : RV κ σ (Nw H σ env) H G env v (.sh d) := h
  exact ⟨r.put hi h', Fr.put r hi h' Fr.refl⟩
def tgN (i : Nat) : D → En → Option En := fun d e => if i < e.length then some (e.set i (.sh d)) else none
theorem tg_name (i : Nat) : TgOk κ (gName i) (tgN i) := fun v d σ H G env e1 Q e r h q => by
  unfold tgN at e
  by_cases hi : i < env.length
  · rw [if_pos hi] at e
    cases e
    obtain ⟨a, b⟩ := rep_sh r hi h
    exact q _ a b
  · rw [if_neg hi] at e; cases e
theorem tgs_names : ∀ (is : List Nat) (vs : List V) (ds : List D) (σ : L2.St) (H G : Hp) (env e1 : En) (Q : L2.St → Hp → Prop), setAll is ds env = some e1 → Rep κ H G σ env → RpA κ G vs ds → (∀ σ1, Rep κ H G σ1 e1 → Fr H G σ env H G σ1 e1 → Q σ1 H) → gNames is vs σ H Q
  | [], vs, ds, σ, H, G, env, e1, Q, e, r, h, q => by
    cases h with
    | nil => cases e; exact ⟨rfl, q σ r Fr.refl⟩
    | cons => cases e
  | i :: is, vs, ds, σ, H, G, env, e1, Q, e, r, h, q => by
    cases h with
    | nil => cases e
    | cons h t =>
      dsimp only [setAll] at e
      split at e
      · rename_i hi
        obtain ⟨a, b⟩ := rep_sh r hi h
        exact ⟨_, _, rfl, tgs_names is _ _ _ H G _ e1 Q e a t fun σ1 r1 f1 => q σ1 r1 (b.trans f1)⟩
      · cases e
def tgT (is : List Nat) : D → En → Option En := fun d e => match d with
  | .tup ds => setAll is ds e
  | _ => none
theorem setAll_len : ∀ {is : List Nat} {ds : List D} {e e1 : En}, setAll is ds e = some e1 → ds.length = is.length
  | [], [], _, _, _ => rfl
  | [], _ :: _, _, _, h => by cases h
  | _ :: _, [], _, _, h => by cases h
  | i :: is, d :: ds, e, e1, h => by
    dsimp only [setAll] at h
    split at h
    · rw [List.length_cons, List.length_cons, setAll_len h]
    · cases h
theorem tg_tup (is : List Nat) {n : Nat} (hn : n = is.length) : TgOk κ (gTup κ.K n (gNames is)) (tgT is) := fun v d σ H G env e1 Q e r h q => by
  subst hn
  cases h with
  | tup h t =>
    have e' : setAll is _ env = some e1 := e
    exact ⟨_, _, rfl, SqT.of (r.sub _ _ h), by rw [t.length, setAll_len e'], tgs_names is _ _ σ H G env e1 Q e' r t q⟩
  | _ => cases e
/-- target = value, any target -/
def sTg (f : D → En → Option En) (m : Sm D) : Ss := sbnd m fun d e => match f d e with
  | some e1 => some (.nx e1)
  | none => none
theorem s_tg {tg e : Expr} {g : TG} {f : D → En → Option En} {m : Sm D} {pos : Pos} (hg : PG X tg g) (hf : TgOk κ g f) (he : PE X e (tX κ W (RP κ) m)) (hs : swapsWithSole [tg] e pos.line X.env = pure false := by rfl) (hw : swappedStores [tg] e X.env = pure none := by rfl) (h1 : List.map (fun x => x.snd) (assignEach [tg] X.env) = [assign tg X.env] := by rfl) :
    PS X (.Assign [tg] e pos) (tS κ W (sTg f m)) := PS.imp (ps_asg he hg hs hw h1) fun D σ H ⟨G, env, r, q⟩ => sbind_post r q fun d e1 v H1 G1 em r1 rv s1 f1 q1 => by
  cases z : f d e1 with
  | none => rw [z] at q1; exact q1.elim
  | some e2 =>
    rw [z] at q1
    exact hf v d σ H1 G1 e1 e2 _ z r1 rv fun σ1 r2 f2 => q1 σ1 H1 G1 r2 f2
end

/-! ### loops -/
/-- an iterator gives these items, one after another -/
def Yields (κ : Kx) (J : It) (ds : List D) (H G : Hp) : Prop := ∀ i : Nat, (∀ d, ds[i]? = some d → J.go i H ∧ ∀ x H', J.yld i H x H' → (H' = H ∧ Rp κ G x d) ∨ ∃ (T : Addr) (xs : List V) (es : List D), H T = none ∧ H' = upd H T (.tup xs) ∧ x = .ref T ∧ d = .tup es ∧ RpA κ G xs es) ∧ (ds.length ≤ i → J.stop i H)
def RI (κ : Kx) : Rl (List D) It := fun σ _ H G env J ds => ∃ pr : Addr → Prop, (∀ a, pr a → ¬ Mt σ env a) ∧ ∀ H' G', (∀ a o, pr a → H a = some o → H' a = some o) → Same G G' → Same G' H' → Yields κ J ds H' G'
instance {κ : Kx} : RlMono (RI κ) := ⟨fun _ q => q⟩
def forL (tg : D → En → Option En) (body : Ss) : List D → Ss
  | [], e => some (.nx e)
  | d :: ds, e => match tg d e with
    | none => none
    | some e1 => match body e1 with
      | some (.nx e2) => forL tg body ds e2
      | some (.ct e2) => forL tg body ds e2
      | some (.bk e2) => some (.nx e2)
      | o => o
def sFor (mi : Sm (List D)) (tg : D → En → Option En) (body : Ss) : Ss := sbnd mi fun ds => forL tg body ds
section
variable {X : Cx} {κ : Kx} {W : WX}
theorem s_for {tgt iter : Expr} {sts : List Stmt} {mi : Sm (List D)} {g : TG} {f : D → En → Option En} {m : Ss} {pos : Pos} (hp : PassesOwn (model X.prog X.w) X.A X.env X.xe) (hc : X.calm = true) (hi : PI X tgt iter (tX κ W (RI κ) mi)) (hg : PG X tgt g) (hf : TgOk κ g f) (hb : PSs X sts (tS κ W m))
    (hs : ∀ x, foldedSetIterable iter X.env x = pure x := by intro _; rfl) : PS X (.For tgt iter sts [] pos) (tS κ W (sFor mi f m)) := PS.imp (ps_for hp hc hi hg hb hs) fun D σ H ⟨G, env, r, q⟩ => by
  refine sbind_post r q fun ds e1 J H1 G1 em r1 rv s1 f1 q1 => ?_
  obtain ⟨pr, hpr, yl⟩ := rv
  refine ⟨fun i k σ' H' => k = ds.length - i ∧ i ≤ ds.length ∧ ∃ G' env', Rep κ H' G' σ' env' ∧ Fr H1 G1 σ e1 H' G' σ' env' ∧ SPost κ W σ' H' G' env' (forL f m (ds.drop i) env') D, ⟨ds.length, by simp, Nat.zero_le _, G1, e1, r1, Fr.refl, q1⟩, ?_⟩
  rintro i k σ2 H2 ⟨rfl, hi2, G2, env2, r2, fr2, q2⟩
  have y := yl H2 G2 (fun a o pa e => fr2.hk a o e (hpr a pa)) fr2.gk r2.sub i
  by_cases hlt : i < ds.length
  · right
    have ed : ds[i]? = some ds[i] := List.getElem?_eq_getElem hlt
    have dr : ds.drop i = ds[i] :: ds.drop (i + 1) := (List.drop_eq_getElem_cons hlt)
    obtain ⟨go, yy⟩ := y.1 _ ed
    refine ⟨go, fun σ' H' => ∃ G' env', Rep κ H' G' σ' env' ∧ Fr H1 G1 σ e1 H' G' σ' env' ∧ SPost κ W σ' H' G' env' (forL f m (ds.drop (i + 1)) env') D, fun σ' H' ⟨G', env', a, b, c⟩ => ⟨ds.length - (i + 1), by omega, rfl, hlt, G', env', a, b, c⟩, ?_⟩
    rw [dr] at q2
    dsimp only [forL] at q2
    intro x H3 hy
    cases z : f ds[i] env2 with
    | none => rw [z] at q2; exact q2.elim
    | some e3 =>
      rw [z] at q2
      dsimp only at q2
      -- the item stands in G3
      have item : ∃ G3, Rep κ H3 G3 σ2 env2 ∧ Fr H2 G2 σ2 env2 H3 G3 σ2 env2 ∧ Rp κ G3 x ds[i] := by
        rcases yy x H3 hy with ⟨rfl, rx⟩ | ⟨T, xs, es, hT, rfl, rfl, e4, rx⟩
        · exact ⟨G2, r2, Fr.refl, rx⟩
        · have st := new_sh (o := .tup xs) r2 hT
          refine ⟨upd G2 T (.tup xs), st.rep, st.fr, ?_⟩
          rw [e4]
          exact .tup upd_same (rx.mono (same_new (Same.none r2.sub hT)))
      obtain ⟨G3, r3, fr3, rx⟩ := item
      refine hf x ds[i] σ2 H3 G3 env2 e3 _ z r3 rx fun σ4 r4 fr4 => ?_
      have frA := fr3.trans fr4
      refine ⟨G3, e3, r4, ?_⟩
      have q3 := SPost.shift frA q2
      cases w : m e3 with
      | none => rw [w] at q3; exact q3
      | some o => cases o with
        | nx e5 =>
          rw [w] at q3
          exact fun σ5 H5 G5 r5 fr5 => ⟨G5, e5, r5, (fr2.trans frA).trans fr5, SPost.shift fr5 q3⟩
        | ct e5 =>
          rw [w] at q3
          exact fun σ5 H5 G5 r5 fr5 => ⟨G5, e5, r5, (fr2.trans frA).trans fr5, SPost.shift fr5 q3⟩
        | bk e5 => rw [w] at q3; exact q3
        | rt r5 => rw [w] at q3; exact q3
        | ex x5 e5 => rw [w] at q3; exact q3
  · left
    have e : i = ds.length := by omega
    subst e
    refine ⟨y.2 (Nat.le_refl _), ?_⟩
    rw [List.drop_length] at q2
    exact q2 σ2 H2 G2 r2 Fr.refl
/-- while: at most n turns -/
def whL (n : Nat) (t : Sm Bool) (body : Ss) : Ss := match n with
  | 0 => fun _ => none
  | n + 1 => sbnd t fun b e => match b with
    | false => some (.nx e)
    | true => match body e with
      | some (.nx e2) => whL n t body e2
      | some (.ct e2) => whL n t body e2
      | some (.bk e2) => some (.nx e2)
      | o => o
theorem s_while {c : Expr} {sts : List Stmt} {t : Sm Bool} {m : Ss} {pos : Pos} (n : Nat) (hp : PassesOwn (model X.prog X.w) X.A X.env X.xe) (hc : PT X c (tX κ W RT t)) (hb : PSs X sts (tS κ W m)) : PS X (.While c sts [] pos) (tS κ W (whL n t m)) := PS.imp (ps_while hp hc hb) fun D σ H ⟨G, env, r, q⟩ => by
  refine ⟨fun k σ' H' => ∃ G' env', Rep κ H' G' σ' env' ∧ SPost κ W σ' H' G' env' (whL k t m env') D, ⟨n, G, env, r, q⟩, ?_⟩
  rintro k σ2 H2 ⟨G2, env2, r2, q2⟩
  cases k with
  | zero => exact q2.elim
  | succ k =>
    dsimp only [whL] at q2
    refine sbind_post r2 q2 fun b e3 v H3 G3 em r3 rv s3 f3 q3 => ?_
    cases rv
    cases b with
    | false => exact q3 σ2 H3 G3 r3 Fr.refl
    | true =>
      rw [if_pos rfl]
      dsimp only at q3
      refine ⟨fun σ' H' => ∃ G' env', Rep κ H' G' σ' env' ∧ SPost κ W σ' H' G' env' (whL k t m env') D, fun σ' H' h => ⟨k, Nat.lt_succ_self k, h⟩, G3, e3, r3, ?_⟩
      cases w : m e3 with
      | none => rw [w] at q3; exact q3
      | some o => cases o with
        | nx e5 =>
          rw [w] at q3
          exact fun σ5 H5 G5 r5 fr5 => ⟨G5, e5, r5, SPost.shift fr5 q3⟩
        | ct e5 =>
          rw [w] at q3
          exact fun σ5 H5 G5 r5 fr5 => ⟨G5, e5, r5, SPost.shift fr5 q3⟩
        | bk e5 => rw [w] at q3; exact q3
        | rt r5 => rw [w] at q3; exact q3
        | ex x5 e5 => rw [w] at q3; exact q3
end
/-! ### what is walked -/
/-- a list that stays while it is walked -/
def RL (κ : Kx) : Rl (List D) V := fun σ _ H G env v l => ∃ a xs, v = .ref a ∧ H a = some (.lst xs) ∧ RpA κ G xs l ∧ (G a = some (.lst xs) ∨ ¬ Mt σ env a)
instance {κ : Kx} : RlMono (RL κ) := ⟨fun _ q => q⟩
def RLs (κ : Kx) : Rl (List D) (List V) := fun σ N H G env vs l => ∃ v, vs = [v] ∧ RL κ σ N H G env v l
instance {κ : Kx} : RlMono (RLs κ) := ⟨fun _ q => q⟩
def eIt (i : Nat) : Sm (List D) := fun env => match env[i]? with
  | some (.sh (.lst l)) => some (.ok l env)
  | some (.lk l) => some (.ok l env)
  | some (.bo l) => some (.ok l env)
  | _ => none
def fIt (m : Sm D) : Sm (List D) := bnd m fun d e => match d with
  | .lst l => some (.ok l e)
  | _ => none
section
variable {X : Cx} {κ : Kx} {W : WX} {a b e tg : Expr} {mi mj : Sm (List D)} {m : Sm D} {ms : Sm (List D)} {pos p : Pos}
theorem l_name {i : Nat} {x : Str} (h : PE X (.Name x pos) (tVar i)) : PE X (.Name x pos) (tX κ W (RL κ) (eIt i)) := PE.imp h fun σ H Q ⟨G, env, r, q⟩ => by
  unfold eIt at q
  cases z : env[i]? with
  | none => rw [z] at q; exact q.elim
  | some s =>
    have rs := r.slot i s z
    rw [z] at q
    cases s with
    | sh d =>
      cases d with
      | lst l =>
        obtain ⟨v, h1, h2⟩ := rs
        cases h2 with
        | lst h3 h4 => exact ⟨_, h1, q _ H G r ⟨_, _, rfl, r.sub _ _ h3, h4, .inl h3⟩ (Same.refl _) Fr.refl⟩
      | _ => exact q.elim
    | lk l =>
      obtain ⟨c, xs, h1, h2, h3, h4⟩ := rs
      refine ⟨_, h1, q _ H G r ⟨c, xs, rfl, h2, h4, .inr fun mt => ?_⟩ (Same.refl _) Fr.refl⟩
      obtain ⟨j, k, e1, e2⟩ := mt
      have w := r.inj i j c ⟨h1, l, .inr z⟩ ⟨e1, k, .inl e2⟩
      subst w
      rw [z] at e2
      cases e2
    | bo l =>
      obtain ⟨c, xs, h1, h2, h4⟩ := rs
      refine ⟨_, h1, q _ H G r ⟨c, xs, rfl, h2, h4, .inr fun mt => ?_⟩ (Same.refl _) Fr.refl⟩
      obtain ⟨j, k, e1, e2⟩ := mt
      exact r.nbo j c ⟨e1, k, .inl e2⟩ i l h1 z
    | _ => exact q.elim
theorem l_of (h : PE X e (tX κ W (RP κ) m)) : PE X e (tX κ W (RL κ) (fIt m)) := PE.imp h fun σ H Q ⟨G, env, r, q⟩ => bind_post r q fun d e1 v H1 G1 em r1 rv s1 f1 q1 => by
  cases d with
  | lst l =>
    cases rv with
    | lst h3 h4 => exact q1 _ H1 G1 r1 ⟨_, _, rfl, r1.sub _ _ h3, h4, .inl h3⟩ (Same.refl _) Fr.refl
  | _ => exact q1.elim
theorem l_arg (h : PE X e (tX κ W (RL κ) mi)) (hs : starEach [e] X.env = (false, eval e X.env) :: starEach [] X.env := by rfl) : PA X [e] (tX κ W (RLs κ) mi) := PA.imp (pa_cons h pa_nil hs) fun σ H Q ⟨G, env, r, q⟩ => by
  refine ⟨G, env, r, ?_⟩
  cases z : mi env with
  | none => rw [z] at q; exact q
  | some o => cases o with
    | ok l e1 => rw [z] at q; exact fun v H1 G1 r1 rv s1 f1 => q [v] H1 G1 r1 ⟨v, rfl, rv⟩ s1 f1
    | ex x e1 => rw [z] at q; exact q
/-- the items of a list that stays -/
theorem list_yields {J : It} {σ : L2.St} {N : Addr → Prop} {H G : Hp} {env : En} {v : V} {l ds : List D} (r : Rep κ H G σ env) (h : RL κ σ N H G env v l)
    (k : ∀ a xs, v = .ref a → ∀ H' G', H' a = some (.lst xs) → RpA κ G' xs l → Yields κ J ds H' G') : RI κ σ N H G env J ds := by
  obtain ⟨a, xs, rfl, h1, h2, h3⟩ := h
  refine ⟨fun b => b = a ∧ ¬ Mt σ env a, fun b hb => hb.1 ▸ hb.2, fun H' G' hp sg sh => k a xs rfl H' G' ?_ (h2.mono sg)⟩
  rcases h3 with h3 | h3
  · exact sh _ _ (sg _ _ h3)
  · exact hp a _ ⟨rfl, h3⟩ h1
theorem sq_inj {H : Hp} {K : PySem.W.Frag} {a : Addr} {xs : List V} (h : H a = some (.lst xs)) : SqL K H a xs := SqL.of h
theorem i_list (h : PE X e (tX κ W (RL κ) mi)) : PI X tg e (tX κ W (RI κ) mi) := ⟨fun pins s σ H R I ⟨G, env, r, q⟩ => (pi_list h).run pins s σ H R I ⟨G, env, r, by
  cases z : mi env with
  | none => rw [z] at q; exact q
  | some o => cases o with
    | ex x e1 => rw [z] at q; exact q
    | ok l e1 =>
      rw [z] at q
      intro v H1 G1 r1 rv s1 f1
      obtain ⟨a, xs, rfl, h1, h2, h3⟩ := id rv
      refine ⟨a, rfl, ⟨xs, SqL.of h1⟩, q _ H1 G1 r1 (list_yields r1 rv fun a' ys ea H' G' hl ha i => ?_) s1 f1⟩
      cases ea
      refine ⟨fun d hd => ?_, fun hi => ⟨ys, SqL.of hl, by rw [ha.length]; exact hi⟩⟩
      obtain ⟨x, hx, rx⟩ := ha.getD hd
      exact ⟨⟨ys, x, SqL.of hl, hx⟩, fun y H2 ⟨e2, hy⟩ => .inl ⟨e2, by
        have := hy ys (SqL.of hl)
        rw [hx] at this
        cases this
        exact rx⟩⟩⟩⟩
/-- the signs of a text -/
def fSg (m : Sm D) : Sm (List D) := bnd m fun d e => match d with
  | .str w => some (.ok (w.map fun c => .str [c]) e)
  | _ => none
theorem i_str (h : PE X e (tX κ W (RB κ) m)) : PI X tg e (tX κ W (RI κ) (fSg m)) := ⟨fun pins s σ H R I ⟨G, env, r, q⟩ => (pi_str h).run pins s σ H R I (bind_post r q fun d e1 v H1 G1 em r1 rv s1 f1 q1 => by
  cases d with
  | str w =>
    refine ⟨S w, RBq.str rv, q1 _ H1 G1 r1 ⟨fun _ => False, fun _ z => z.elim, fun H' G' _ _ _ i => ?_⟩ (Same.refl _) Fr.refl⟩
    have ez : (S w).cps.size = w.length := S_len w
    refine ⟨fun d hd => ?_, fun hi => ?_⟩
    · rw [List.getElem?_map] at hd
      cases hw : w[i]? with
      | none => rw [hw] at hd; cases hd
      | some c =>
        rw [hw] at hd
        cases hd
        have hi : i < w.length := (List.getElem?_eq_some_iff.mp hw).1
        refine ⟨show i < (S w).cps.size by rw [ez]; exact hi, fun y H2 ⟨e2, c', hc, ey⟩ => .inl ⟨e2, ?_⟩⟩
        have hc' : w[i]? = some c' := by
          have : (S w).cps[i]? = w[i]? := by simp [S]
          rw [← this]; exact hc
        rw [hw] at hc'
        cases hc'
        rw [ey]
        exact .str [c]
    · show (S w).cps.size ≤ i
      rw [ez]
      simpa using hi
  | _ => exact q1.elim)⟩
/-- a tuple's items -/
def fTp (m : Sm D) : Sm (List D) := bnd m fun d e => match d with
  | .tup l => some (.ok l e)
  | _ => none
theorem i_tup (h : PE X e (tX κ W (RP κ) m)) : PI X tg e (tX κ W (RI κ) (fTp m)) := ⟨fun pins s σ H R I ⟨G, env, r, q⟩ => (pi_tup h).run pins s σ H R I (bind_post r q fun d e1 v H1 G1 em r1 rv s1 f1 q1 => by
  cases d with
  | tup l =>
    cases rv with
    | tup h3 h4 =>
      rename_i a xs
      refine ⟨a, rfl, ⟨xs, SqT.of (r1.sub _ _ h3)⟩, q1 _ H1 G1 r1 ⟨fun _ => False, fun _ z => z.elim, fun H' G' _ sg sh i => ?_⟩ (Same.refl _) Fr.refl⟩
      have hl := SqT.of (K := X.K) (sh _ _ (sg _ _ h3))
      have ha := h4.mono sg
      refine ⟨fun d hd => ?_, fun hi => ⟨xs, hl, by rw [ha.length]; exact hi⟩⟩
      obtain ⟨x, hx, rx⟩ := ha.getD hd
      exact ⟨⟨xs, x, hl, hx⟩, fun y H2 ⟨e2, hy⟩ => .inl ⟨e2, by
        have := hy xs hl
        rw [hx] at this
        cases this
        exact rx⟩⟩
  | _ => exact q1.elim)⟩
def rng (lo : Int) (n : Nat) : List D := (List.range n).map fun (k : Nat) => D.int (lo + (k : Int))
def fRg1 (m : Sm (List D)) : Sm (List D) := bnd m fun ds e => match ds with
  | [.int j] => if j ≤ 1000000 ∧ -1000000 ≤ j then some (.ok (rng 0 j.toNat) e) else none
  | _ => none
def fRg2 (m : Sm (List D)) : Sm (List D) := bnd m fun ds e => match ds with
  | [.int i, .int j] => if (j ≤ 1000000 ∧ -1000000 ≤ j) ∧ i ≤ 1000000 ∧ -1000000 ≤ i then some (.ok (rng i (j - i).toNat) e) else none
  | _ => none
theorem rng_yields {lo : Int} {n : Nat} {σ : L2.St} {N : Addr → Prop} {H G : Hp} {env : En} : RI κ σ N H G env (Itr lo n) (rng lo n) := by
  refine ⟨fun _ => False, fun _ z => z.elim, fun H' G' _ _ _ i => ⟨fun d hd => ?_, fun hi => ?_⟩⟩
  · unfold rng at hd
    rw [List.getElem?_map] at hd
    cases hw : (List.range n)[i]? with
    | none => rw [hw] at hd; cases hd
    | some k =>
      rw [hw] at hd
      cases hd
      obtain ⟨hi, ek⟩ := List.getElem?_eq_some_iff.mp hw
      rw [List.getElem_range] at ek
      subst ek
      exact ⟨show i < n by simpa using hi, fun y H2 ⟨e2, ey⟩ => .inl ⟨e2, by rw [ey]; exact .int _⟩⟩
  · show n ≤ i
    unfold rng at hi
    simpa using hi
theorem i_rg1 {ml : List Bool} (hml : ml = [true]) (hg : Gl X "range") (hm : X.mg "range" = none) (h : PA X [a] (tX κ W (RA κ ml) ms)) (hs : starEach [a] X.env = [(false, eval a X.env)] := by rfl) : PI X tg (.Call (.Name "range" p) [a] [] pos) (tX κ W (RI κ) (fRg1 ms)) := ⟨fun pins s σ H R I ⟨G, env, r, q⟩ => (pi_range1 hg hm h hs).run pins s σ H R I (bind_post r q fun d e1 v H1 G1 em r1 rv s1 f1 q1 => by
  subst hml
  cases d with
  | nil => exact q1.elim
  | cons d t =>
    cases t with
    | cons _ _ => cases d <;> exact q1.elim
    | nil =>
      obtain ⟨u, rfl, ru⟩ := RBs.one rv
      cases d with
      | int j =>
        dsimp only at q1
        by_cases hj : j ≤ 1000000 ∧ -1000000 ≤ j
        · rw [if_pos hj] at q1
          exact ⟨j, by rw [ru.int], by omega, by omega, q1 _ H1 G1 r1 rng_yields (Same.refl _) Fr.refl⟩
        · rw [if_neg hj] at q1; exact q1.elim
      | _ => exact q1.elim)⟩
theorem i_rg2 {ml : List Bool} (hml : ml = [true, true]) (hg : Gl X "range") (hm : X.mg "range" = none) (h : PA X [a, b] (tX κ W (RA κ ml) ms)) (hs : starEach [a, b] X.env = [(false, eval a X.env), (false, eval b X.env)] := by rfl) (hs2 : starEach [b] X.env = [(false, eval b X.env)] := by rfl) :
    PI X tg (.Call (.Name "range" p) [a, b] [] pos) (tX κ W (RI κ) (fRg2 ms)) := ⟨fun pins s σ H R I ⟨G, env, r, q⟩ => (pi_range2 hg hm h hs hs2).run pins s σ H R I (bind_post r q fun d e1 v H1 G1 em r1 rv s1 f1 q1 => by
  subst hml
  have cases2 : ∃ i j, d = [.int i, .int j] := by
    revert q1
    rcases d with _ | ⟨x, _ | ⟨y, _ | ⟨z, t⟩⟩⟩
    · exact fun q => q.elim
    · cases x <;> exact fun q => q.elim
    · cases x <;> cases y <;> first
        | exact fun q => q.elim
        | exact fun _ => ⟨_, _, rfl⟩
    · cases x <;> cases y <;> exact fun q => q.elim
  obtain ⟨i, j, rfl⟩ := cases2
  obtain ⟨u, w, rfl, ru, rw'⟩ := RBs.two rv
  dsimp only at q1
  by_cases hj : (j ≤ 1000000 ∧ -1000000 ≤ j) ∧ i ≤ 1000000 ∧ -1000000 ≤ i
  · rw [if_pos hj] at q1
    exact ⟨i, j, by rw [ru.int, rw'.int], ⟨by omega, by omega, by omega, by omega⟩, q1 _ H1 G1 r1 rng_yields (Same.refl _) Fr.refl⟩
  · rw [if_neg hj] at q1; exact q1.elim)⟩
/-- number and item -/
def enumL (l : List D) : List D := (l.zipIdx).map fun p => .tup [.int (p.2 : Int), p.1]
def fEn (m : Sm (List D)) : Sm (List D) := bnd m fun l e => some (.ok (enumL l) e)
theorem i_enum {elts : List Expr} {kk : Nat} {tpos : Pos} (hg : Gl X "enumerate") (hm : X.mg "enumerate" = none) (h : PE X a (tX κ W (RL κ) mi)) (hs : starEach [a] X.env = [(false, eval a X.env)] := by rfl) :
    PI X (.Tuple elts kk tpos) (.Call (.Name "enumerate" p) [a] [] pos) (tX κ W (RI κ) (fEn mi)) := ⟨fun pins s σ H R I ⟨G, env, r, q⟩ => (pi_enum hg hm (l_arg h hs) hs).run pins s σ H R I (bind_post r q fun l e1 vs H1 G1 em r1 rv s1 f1 q1 => by
  obtain ⟨v, rfl, rv⟩ := rv
  obtain ⟨a, xs, rfl, h1, h2, h3⟩ := id rv
  refine ⟨a, xs, rfl, SqL.of h1, q1 _ H1 G1 r1 (list_yields r1 rv fun a' ys ea H' G' hl ha i => ?_) (Same.refl _) Fr.refl⟩
  cases ea
  unfold enumL
  refine ⟨fun d hd => ?_, fun hi => ⟨ys, SqL.of hl, by rw [ha.length]; simpa using hi⟩⟩
  rw [List.getElem?_map, List.getElem?_zipIdx] at hd
  cases hw : l[i]? with
  | none => rw [hw] at hd; cases hd
  | some d0 =>
    rw [hw] at hd
    cases hd
    obtain ⟨x, hx, rx⟩ := ha.getD hw
    refine ⟨⟨ys, x, SqL.of hl, hx⟩, fun y H2 ⟨T, x', ey, hT, e2, hy⟩ => .inr ⟨T, _, _, hT, e2, ey, rfl, ?_⟩⟩
    have := hy ys (SqL.of hl)
    rw [hx] at this
    cases this
    have e0 : (0 + i : Nat) = i := Nat.zero_add i
    simp only [e0]
    exact .cons (.int _) (.cons rx .nil))⟩
def fRev (m : Sm (List D)) : Sm (List D) := bnd m fun l e => some (.ok l.reverse e)
theorem i_rev (hg : Gl X "reversed") (hm : X.mg "reversed" = none) (h : PE X a (tX κ W (RL κ) mi)) (hs : starEach [a] X.env = [(false, eval a X.env)] := by rfl) :
    PI X tg (.Call (.Name "reversed" p) [a] [] pos) (tX κ W (RI κ) (fRev mi)) := ⟨fun pins s σ H R I ⟨G, env, r, q⟩ => (pi_reversed hg hm (l_arg h hs) hs).run pins s σ H R I (bind_post r q fun l e1 vs H1 G1 em r1 rv s1 f1 q1 => by
  obtain ⟨v, rfl, rv⟩ := rv
  obtain ⟨a, xs, rfl, h1, h2, h3⟩ := id rv
  have elen := h2.length
  refine ⟨a, xs, rfl, SqL.of h1, q1 _ H1 G1 r1 (list_yields r1 rv fun a' ys ea H' G' hl ha i => ?_) (Same.refl _) Fr.refl⟩
  cases ea
  refine ⟨fun d hd => ?_, fun hi => ?_⟩
  · have hi : i < l.length := by
      have := (List.getElem?_eq_some_iff.mp hd).1
      simpa using this
    rw [List.getElem?_reverse hi] at hd
    obtain ⟨x, hx, rx⟩ := ha.getD hd
    rw [← elen] at hx
    refine ⟨⟨by omega, ys, x, SqL.of hl, hx⟩, fun y H2 ⟨e2, hy⟩ => .inl ⟨e2, ?_⟩⟩
    have := hy ys (SqL.of hl)
    rw [hx] at this
    cases this
    exact rx
  · show xs.length ≤ i
    rw [elen]
    simpa using hi)⟩
end
/-! ### a loop over an own list locks it -/
def unlk (i : Nat) (e : En) : En := match e[i]? with
  | some (.lk l) => e.set i (.ow l)
  | _ => e
def sLock (i : Nat) (s : Ss) : Ss := fun e => match e[i]? with
  | some (.ow l) => match s (e.set i (.lk l)) with
    | some (.nx e1) => some (.nx (unlk i e1))
    | some (.bk e1) => some (.bk (unlk i e1))
    | some (.ct e1) => some (.ct (unlk i e1))
    | some (.ex x e1) => some (.ex x (unlk i e1))
    | o => o
  | _ => s e
section
variable {X : Cx} {κ : Kx} {W : WX}
theorem lock_own {σ : L2.St} {env : En} {i j : Nat} {a : Addr} {l : List D} (e : env[i]? = some (.ow l)) (o : Own σ (env.set i (.lk l)) j a) : Own σ env j a := by
  obtain ⟨q, m, z⟩ := o
  by_cases w : i = j
  · subst w
    exact ⟨q, l, .inl e⟩
  · rw [List.getElem?_set_ne w] at z
    exact ⟨q, m, z⟩
theorem lock_mt {σ : L2.St} {env : En} {i : Nat} {a : Addr} {l : List D} (m : Mt σ (env.set i (.lk l)) a) : Mt σ env a := mt_set (fun _ z => by cases z) m
theorem Rep.locked {H G : Hp} {σ : L2.St} {env : En} {i : Nat} {l : List D} (r : Rep κ H G σ env) (e : env[i]? = some (.ow l)) : Rep κ H G σ (env.set i (.lk l)) := by
  have hi : i < env.length := (List.getElem?_eq_some_iff.mp e).1
  refine ⟨r.sub, by rw [List.length_set]; exact r.len, fun j s q => ?_, fun j k a o1 o2 => r.inj j k a (lock_own e o1) (lock_own e o2), fun j a o k m q1 q2 => ?_⟩
  · by_cases w : i = j
    · subst w
      rw [List.getElem?_set_self hi] at q
      cases q
      exact (show RSl κ H G σ[i]? (.lk l) from r.slot i (.ow l) e)
    · rw [List.getElem?_set_ne w] at q
      exact r.slot j s q
  · by_cases w : i = k
    · subst w
      rw [List.getElem?_set_self hi] at q2
      cases q2
    · rw [List.getElem?_set_ne w] at q2
      exact r.nbo j a (lock_own e o) k m q1 q2
theorem unlk_own {σ : L2.St} {env : En} {i j : Nat} {a : Addr} (o : Own σ (unlk i env) j a) : Own σ env j a := by
  unfold unlk at o
  split at o
  · rename_i l e
    obtain ⟨q, m, z⟩ := o
    by_cases w : i = j
    · subst w
      exact ⟨q, l, .inr e⟩
    · rw [List.getElem?_set_ne w] at z
      exact ⟨q, m, z⟩
  · exact o
theorem Rep.unlocked {H G : Hp} {σ : L2.St} {env : En} {i : Nat} (r : Rep κ H G σ env) : Rep κ H G σ (unlk i env) := by
  refine ⟨r.sub, ?_, fun j s q => ?_, fun j k a o1 o2 => r.inj j k a (unlk_own o1) (unlk_own o2), fun j a o k m q1 q2 => ?_⟩
  · rw [r.len]
    unfold unlk
    split
    · rw [List.length_set]
    · rfl
  · unfold unlk at q
    split at q
    · rename_i l e
      have hi : i < env.length := (List.getElem?_eq_some_iff.mp e).1
      by_cases w : i = j
      · subst w
        rw [List.getElem?_set_self hi] at q
        cases q
        exact (show RSl κ H G σ[i]? (.ow l) from r.slot i (.lk l) e)
      · rw [List.getElem?_set_ne w] at q
        exact r.slot j s q
    · exact r.slot j s q
  · refine r.nbo j a (unlk_own o) k m q1 ?_
    unfold unlk at q2
    split at q2
    · rename_i l e
      have hi : i < env.length := (List.getElem?_eq_some_iff.mp e).1
      by_cases w : i = k
      · subst w
        rw [List.getElem?_set_self hi] at q2
        cases q2
      · rw [List.getElem?_set_ne w] at q2
        exact q2
    · exact q2
theorem Fr.unlocked {H G H' G' : Hp} {σ σ' : L2.St} {env env' : En} {i : Nat} {l : List D} (e : env[i]? = some (.ow l)) (f : Fr H G σ (env.set i (.lk l)) H' G' σ' env') : Fr H G σ env H' G' σ' (unlk i env') where
  hk := fun a o h n => f.hk a o h fun m => n (lock_mt m)
  gk := f.gk
  gn := fun a o h g n => f.gn a o h g fun m => n (lock_mt m)
  mm := fun a o h m => by
    obtain ⟨j, k, e1, e2⟩ := m
    unfold unlk at e2
    split at e2
    · rename_i l' e3
      have hi : i < env'.length := (List.getElem?_eq_some_iff.mp e3).1
      by_cases w : i = j
      · subst w
        obtain ⟨_, es⟩ := f.lk i (.lk l') rfl e3
        rw [es] at e1
        exact ⟨i, l, e1, e⟩
      · rw [List.getElem?_set_ne w] at e2
        exact lock_mt (f.mm a o h ⟨j, k, e1, e2⟩)
    · exact lock_mt (f.mm a o h ⟨j, k, e1, e2⟩)
  lk := fun j m hf q => by
    have q' : env'[j]? = some m ∧ i ≠ j := by
      unfold unlk at q
      split at q
      · rename_i l' e3
        have hi : i < env'.length := (List.getElem?_eq_some_iff.mp e3).1
        by_cases w : i = j
        · subst w
          rw [List.getElem?_set_self hi] at q
          cases q
          cases hf
        · rw [List.getElem?_set_ne w] at q
          exact ⟨q, w⟩
      · rename_i ne
        refine ⟨q, fun w => ?_⟩
        subst w
        have hi : i < env.length := (List.getElem?_eq_some_iff.mp e).1
        obtain ⟨h0, _⟩ := f.lk i m hf q
        rw [List.getElem?_set_self hi] at h0
        cases h0
        exact ne l q
    obtain ⟨h0, es⟩ := f.lk j m hf q'.1
    rw [List.getElem?_set_ne q'.2] at h0
    exact ⟨h0, es⟩
theorem s_lock {st : Stmt} {m : Ss} {i : Nat} (h : PS X st (tS κ W m)) : PS X st (tS κ W (sLock i m)) := PS.imp h fun D σ H ⟨G, env, r, q⟩ => by
  unfold sLock at q
  split at q
  · rename_i l e
    refine ⟨G, _, r.locked e, ?_⟩
    cases w : m (env.set i (.lk l)) with
    | none => rw [w] at q; exact q
    | some o => cases o with
      | nx e1 => rw [w] at q; exact fun σ' H' G' r' f => q σ' H' G' r'.unlocked (f.unlocked e)
      | bk e1 => rw [w] at q; exact fun σ' H' G' r' f => q σ' H' G' r'.unlocked (f.unlocked e)
      | ct e1 => rw [w] at q; exact fun σ' H' G' r' f => q σ' H' G' r'.unlocked (f.unlocked e)
      | ex x e1 => rw [w] at q; exact fun c d σ' H' G' r' xr f => q c d σ' H' G' r'.unlocked xr (f.unlocked e)
      | rt z => rw [w] at q; exact fun v H' G' s rr f => q v H' G' s (rr.mono fun c n o h => lock_mt (n o h)) ⟨fun a o h n => f.hk a o h fun m => n (lock_mt m), f.gk, fun a o h g n => f.gn a o h g fun m => n (lock_mt m)⟩
  · exact ⟨G, env, r, q⟩
end

/-! ### methods of texts -/
def fM1 (f : List Nat → D → Option Rs) (mo me : Sm D) : Sm Rs := bnd mo fun x => match x with
  | .str w => bnd me fun y e => match f w y with
    | some z => some (.ok z e)
    | none => none
  | _ => fun _ => none
section
variable {X : Cx} {κ : Kx} {W : WX} {o e e2 : Expr} {mo me me2 : Sm D} {pos apos : Pos}
/-- a text's method, one argument -/
theorem v_m1 {id : String} {name : Str} {r : V → List V → Hp → VK → Prop} {f : List Nat → D → Option Rs} (slot : Slot "str" name id) (ty : typeOf (.builtin id) = pure (.type "method_descriptor")) (rule : MtR X id r) (hs : ∀ (W : WX) (σ : L2.St) (w : List Nat) (y : V) (dy : D) (z : Rs) (H G : Hp) (env : En) (Q : VK), f w dy = some z → Rep κ H G σ env → RBq κ H G y dy → EPost κ W (RV κ) σ H G env (some (.ok z env)) Q → r (.str (S w)) [y] H Q)
    (ho : PE X o (tX κ W (RB κ) mo)) (he : PE X e (tX κ W (RB κ) me)) (hst : starEach [e] X.env = [(false, eval e X.env)] := by rfl) (hbase : attributeBase o name X.env (eval o X.env) = eval o X.env := by rfl) (hline : (apos.endLine == pos.line) = true := by rfl) :
    PE X (.Call (.Attribute o name apos) [e] [] pos) (tX κ W (RV κ) (fM1 f mo me)) := PE.imp (pe_m1 slot ty rule ho he hst hbase hline) fun σ H Q ⟨G, env, rp, q⟩ => by
  refine bind_post rp q fun dx e1 x H1 G1 _ rp1 rx s1 f1 q1 => ?_
  cases dx with
  | str w =>
    refine ⟨⟨S w, RBq.str rx⟩, ?_⟩
    refine bind_post rp1 q1 fun dy e2 y H2 G2 _ rp2 ry s2 f2 q3 => ?_
    cases z : f w dy with
    | none => rw [z] at q3; exact q3.elim
    | some u =>
      rw [z] at q3
      rw [RBq.str rx]
      exact hs W σ w y dy u H2 G2 e2 Q z rp2 ry q3
  | _ => exact q1.elim
end
def opFind : List Nat → D → Option Rs
  | a, .str b => some (.sh (.int (Txt.find (S a) (S b))))
  | _, _ => none
def opStarts : List Nat → D → Option Rs
  | a, .str b => some (.sh (.bl (Txt.startswith (S a) (S b))))
  | _, _ => none
def opSplit : List Nat → D → Option Rs
  | a, .str b => if b.length ≠ 0 ∧ a.length ≤ szl then some (.ow ((Txt.split (S a) (S b)).map fun x => .str x.cps.toList)) else none
  | _, _ => none
def opPart : List Nat → D → Option Rs
  | a, .str b => if b.length ≠ 0 ∧ a.length ≤ szl then some (.sh (.tup [.str (Txt.partition (S a) (S b)).1.cps.toList, .str (Txt.partition (S a) (S b)).2.1.cps.toList, .str (Txt.partition (S a) (S b)).2.2.cps.toList])) else none
  | _, _ => none
def allStrs : List D → Option (List (List Nat))
  | [] => some []
  | .str w :: r => match allStrs r with
    | some l => some (w :: l)
    | none => none
  | _ :: _ => none
theorem allStrs_of : ∀ {l : List D} {ns : List (List Nat)}, allStrs l = some ns → l = ns.map D.str
  | [], _, e => by cases e; rfl
  | d :: r, ns, e => by
    cases d <;> try (cases e; done)
    rename_i i
    dsimp only [allStrs] at e
    cases h : allStrs r with
    | none => rw [h] at e; cases e
    | some l =>
      rw [h] at e
      cases e
      rw [allStrs_of h]
      rfl
theorem RpA.ofStrs {κ : Kx} {G : Hp} : ∀ {ns : List (List Nat)} {xs : List V}, RpA κ G xs (ns.map D.str) → xs = (ns.map S).map V.str
  | [], _, .nil => rfl
  | n :: r, _, .cons (.str _) t => by rw [RpA.ofStrs t]; rfl
def opJoin : List Nat → D → Option Rs
  | a, .lst l => match allStrs l with
    | some ws => if (ws.map List.length).sum + ws.length * a.length ≤ szl then some (.sh (.str (Txt.join (S a) (ws.map S)).cps.toList)) else none
    | none => none
  | _, _ => none
theorem rp_S {κ : Kx} {G : Hp} (x : Str) : Rp κ G (.str x) (.str x.cps.toList) := by
  have := Rp.str (κ := κ) (G := G) x.cps.toList
  rw [S_list] at this
  exact this
theorem rpa_Ss {κ : Kx} {G : Hp} : ∀ xs : List Str, RpA κ G (xs.map V.str) (xs.map fun x => D.str x.cps.toList)
  | [] => .nil
  | x :: r => .cons (rp_S x) (rpa_Ss r)
section
variable {X : Cx} {κ : Kx} {W : WX} {o e e2 : Expr} {mo me me2 : Sm D} {pos apos : Pos}
theorem v_find (ho : PE X o (tX κ W (RB κ) mo)) (he : PE X e (tX κ W (RB κ) me)) (hst : starEach [e] X.env = [(false, eval e X.env)] := by rfl) (hbase : attributeBase o "find" X.env (eval o X.env) = eval o X.env := by rfl) (hline : (apos.endLine == pos.line) = true := by rfl) :
    PE X (.Call (.Attribute o "find" apos) [e] [] pos) (tX κ W (RV κ) (fM1 opFind mo me)) := v_m1 PySem.F.slot_str_find PySem.F.type_str_find mt_find (fun W σ w y dy z H G env Q e r ry q => by
  cases dy <;> try (cases e; done)
  cases e
  exact ⟨_, _, rfl, by rw [ry.str], post_sh r (.int _) q⟩) ho he hst hbase hline
theorem v_starts (ho : PE X o (tX κ W (RB κ) mo)) (he : PE X e (tX κ W (RB κ) me)) (hst : starEach [e] X.env = [(false, eval e X.env)] := by rfl) (hbase : attributeBase o "startswith" X.env (eval o X.env) = eval o X.env := by rfl) (hline : (apos.endLine == pos.line) = true := by rfl) :
    PE X (.Call (.Attribute o "startswith" apos) [e] [] pos) (tX κ W (RV κ) (fM1 opStarts mo me)) := v_m1 PySem.F.slot_str_startswith PySem.F.type_str_startswith mt_startswith (fun W σ w y dy z H G env Q e r ry q => by
  cases dy <;> try (cases e; done)
  cases e
  exact ⟨_, _, rfl, by rw [ry.str], post_sh r (.bl _) q⟩) ho he hst hbase hline
theorem v_split (ho : PE X o (tX κ W (RB κ) mo)) (he : PE X e (tX κ W (RB κ) me)) (hst : starEach [e] X.env = [(false, eval e X.env)] := by rfl) (hbase : attributeBase o "split" X.env (eval o X.env) = eval o X.env := by rfl) (hline : (apos.endLine == pos.line) = true := by rfl) :
    PE X (.Call (.Attribute o "split" apos) [e] [] pos) (tX κ W (RV κ) (fM1 opSplit mo me)) := v_m1 PySem.F.slot_str_split PySem.F.type_str_split mt_split (fun W σ w y dy z H G env Q e r ry q => by
  cases dy <;> try (cases e; done)
  dsimp only [opSplit] at e
  split at e
  · rename_i b h
    cases e
    refine ⟨_, _, rfl, by rw [ry.str], by rw [S_len]; simpa using h.1, by rw [S_len]; have := szl_le h.2; have e2 : sizeLine = 16777216 := sizeLine_eq; have h3 : w.length ≤ 1000000 := h.2; omega, fun p hp => post_ow r hp (rpa_Ss _) q⟩
  · cases e) ho he hst hbase hline
theorem v_part (ho : PE X o (tX κ W (RB κ) mo)) (he : PE X e (tX κ W (RB κ) me)) (hst : starEach [e] X.env = [(false, eval e X.env)] := by rfl) (hbase : attributeBase o "partition" X.env (eval o X.env) = eval o X.env := by rfl) (hline : (apos.endLine == pos.line) = true := by rfl) :
    PE X (.Call (.Attribute o "partition" apos) [e] [] pos) (tX κ W (RV κ) (fM1 opPart mo me)) := v_m1 PySem.F.slot_str_partition PySem.F.type_str_partition mt_partition (fun W σ w y dy z H G env Q e r ry q => by
  cases dy <;> try (cases e; done)
  dsimp only [opPart] at e
  split at e
  · rename_i b h
    cases e
    refine ⟨_, _, rfl, by rw [ry.str], by rw [S_len]; simpa using h.1, by rw [S_len]; exact szl_le h.2, fun p hp => post_tup r hp (.cons (rp_S _) (.cons (rp_S _) (.cons (rp_S _) .nil))) q⟩
  · cases e) ho he hst hbase hline
theorem v_join (ho : PE X o (tX κ W (RB κ) mo)) (he : PE X e (tX κ W (RB κ) me)) (hst : starEach [e] X.env = [(false, eval e X.env)] := by rfl) (hbase : attributeBase o "join" X.env (eval o X.env) = eval o X.env := by rfl) (hline : (apos.endLine == pos.line) = true := by rfl) :
    PE X (.Call (.Attribute o "join" apos) [e] [] pos) (tX κ W (RV κ) (fM1 opJoin mo me)) := v_m1 PySem.F.slot_str_join PySem.F.type_str_join mt_join (fun W σ w y dy z H G env Q e r ry q => by
  cases dy <;> try (cases e; done)
  rename_i l
  dsimp only [opJoin] at e
  cases h : allStrs l with
  | none => rw [h] at e; cases e
  | some ws =>
    rw [h] at e
    dsimp only at e
    split at e
    · rename_i hl
      cases e
      rw [allStrs_of h] at ry
      obtain ⟨p, xs, rfl, h1, h2⟩ := ry.lst r.sub
      rw [RpA.ofStrs h2] at h1
      refine ⟨S w, p, ws.map S, rfl, rfl, .inl (SqL.of h1), ?_, post_sh r (rp_S _) q⟩
      have e1 : ((ws.map S).map fun x => x.length) = ws.map List.length := by
        rw [List.map_map]
        exact List.map_congr_left fun x _ => S_len x
      rw [e1, List.length_map, S_len]
      have : (ws.map List.length).sum + ws.length * w.length ≤ 1000000 := hl
      omega
    · cases e) ho he hst hbase hline
end
/-! ### kinds -/
/-- isinstance(x, int) and its like -/
inductive Kd where
  | int | bool | str | list | tuple
def Kd.nm : Kd → String
  | .int => "int" | .bool => "bool" | .str => "str" | .list => "list" | .tuple => "tuple"
def isKd : D → Kd → Option Bool
  | .non, _ => some false
  | .bl _, .int => some true
  | .bl _, .bool => some true
  | .bl _, _ => some false
  | .int _, .int => some true
  | .int _, _ => some false
  | .str _, .str => some true
  | .str _, _ => some false
  | .lst _, .list => some true
  | .lst _, _ => some false
  | .tup _, .tuple => some true
  | .tup _, _ => some false
  | _, _ => none
def fIsi (m : Sm D) (k : Kd) : Sm D := bnd m fun d e => match isKd d k with
  | some b => some (.ok (.bl b) e)
  | none => none
theorem kd_all : ∀ k : Kd, (kitB "NoneType" k.nm = some false) ∧ (kitB "bool" k.nm = isKd (.bl true) k) ∧ (kitB "int" k.nm = isKd (.int 0) k) ∧ (kitB "str" k.nm = isKd (.str []) k) ∧ (kitB "list" k.nm = isKd (.lst []) k) ∧ (kitB "tuple" k.nm = isKd (.tup []) k) := by
  intro k
  cases k <;> decide +kernel
theorem isi_of {κ : Kx} {H G : Hp} {v : V} {d : D} {k : Kd} {b : Bool} (s : Same G H) (r : RBq κ H G v d) (e : isKd d k = some b) : ∃ t, TyX κ.K H v t ∧ PySem.W.kitOne κ.K t (.type k.nm) = some b := by
  obtain ⟨h1, h2, h3, h4, h5, h6⟩ := kd_all k
  cases d with
  | non => cases k <;> (cases e; rw [r.non]; exact ⟨_, .base .non, kit_ty h1⟩)
  | bl c => rw [r.bl]; exact ⟨_, .base (.bl c), kit_ty (h2.trans (by cases k <;> exact e))⟩
  | int i => rw [r.int]; exact ⟨_, .base (.int i), kit_ty (h3.trans (by cases k <;> exact e))⟩
  | str w => rw [r.str]; exact ⟨_, .base (.str _), kit_ty (h4.trans (by cases k <;> exact e))⟩
  | lst l =>
    obtain ⟨a, xs, rfl, g1, g2⟩ := r.lst s
    exact ⟨_, .base (.lst g1), kit_ty (h5.trans (by cases k <;> exact e))⟩
  | tup l =>
    obtain ⟨a, xs, rfl, g1, g2⟩ := r.tup s
    exact ⟨_, .base (.tup g1), kit_ty (h6.trans (by cases k <;> exact e))⟩
  | ob c l => cases k <;> cases e
  | scr l => cases k <;> cases e
  | xn o x => cases k <;> cases e
section
variable {X : Cx} {κ : Kx} {W : WX} {o e : Expr} {mo : Sm D} {pos p p2 : Pos}
theorem v_isi {T : Str} (k : Kd) (hK : X.K = κ.K) (hg : Gl X "isinstance") (hm : X.mg "isinstance" = none) (hT : PE X (.Name T p2) (tC (.ty k.nm))) (ho : PE X o (tX κ W (RB κ) mo))
    (hv : bootBuiltins "isinstance" = some (.builtin "isinstance") := by decide +kernel) (hst : starEach [o, .Name T p2] X.env = [(false, eval o X.env), (false, eval (.Name T p2) X.env)] := by rfl) (hst2 : starEach [.Name T p2] X.env = [(false, eval (.Name T p2) X.env)] := by rfl) (hpl : (backTo pos (starEach [.Name T p2] X.env)).any (·.1) = false := by rfl) :
    PE X (.Call (.Name "isinstance" p) [o, .Name T p2] [] pos) (tX κ W (RP κ) (fIsi mo k)) :=
  PE.imp (pe_callB call_isi hg hm hv (pa_cons ho (pa_cons hT pa_nil (by rw [hst2]; rfl)) (by rw [hst, hst2])) (by decide) (by decide) (by rw [hst, hst2]) hpl) fun σ H Q ⟨G, env, rp, q⟩ => by
    refine bind_post rp q fun d e1 x H1 G1 _ rp1 rx s1 f1 q1 => ?_
    cases z : isKd d k with
    | none => rw [z] at q1; exact q1.elim
    | some b =>
      rw [z] at q1
      obtain ⟨t, h1, h2⟩ := isi_of rp1.sub rx z
      rw [hK]
      exact ⟨x, .ty k.nm, t, .type k.nm, b, rfl, .ty _, h1, h2, q1 _ H1 G1 rp1 (.bl b) (Same.refl _) Fr.refl⟩
end
/-! ### defs -/
inductive FO where
  | rt (r : Rs) | ex (x : Ex)
abbrev FSem := List D → Option FO
def RF (κ : Kx) (H H' G' : Hp) (v : V) : Rs → Prop
  | .sh d => Rp κ G' v d
  | .ow l => ∃ a xs, v = .ref a ∧ H a = none ∧ H' a = some (.lst xs) ∧ G' a = none ∧ RpA κ G' xs l
def FPost (κ : Kx) (H G : Hp) (o : Option FO) (Q : VK) (E : XK) : Prop := match o with
  | none => False
  | some (.rt r) => ∀ v H' G', Same H H' → Same G G' → Same G' H' → (∀ a o, H a = some o → G a = none → G' a = none) → RF κ H H' G' v r → Q v H'
  | some (.ex x) => ∀ c d H' G', Same H H' → Same G G' → Same G' H' → (∀ a o, H a = some o → G a = none → G' a = none) → XR κ G' x c d → E c d H'
def spV (κ : Kx) (ms : List Bool) (g : FSem) : Sp := fun vs H Q E => ∃ G ds, Same G H ∧ RBs κ H G ms vs ds ∧ FPost κ H G (g ds) Q E
theorem RBs.len {κ : Kx} {H G : Hp} : ∀ {ms : List Bool} {vs : List V} {ds : List D}, RBs κ H G ms vs ds → vs.length = ms.length ∧ ds.length = ms.length
  | _, _, _, .nil => ⟨rfl, rfl⟩
  | _, _, _, .sh _ t => by simp [t.len.1, t.len.2]
  | _, _, _, .bo _ t => by simp [t.len.1, t.len.2]
def bof : D → Sl
  | .lst l => .bo l
  | d => .sh d
def inis : List Bool → List D → En
  | true :: ms, d :: ds => bof d :: inis ms ds
  | false :: ms, d :: ds => .sh d :: inis ms ds
  | _, _ => []
def runDef (ms : List Bool) (k : Nat) (body : Ss) : FSem := fun ds => match body (inis ms ds ++ List.replicate k .un) with
  | some (.nx _) => some (.rt (.sh .non))
  | some (.rt r) => some (.rt r)
  | some (.ex x _) => some (.ex x)
  | _ => none
section
variable {κ : Kx} {H G : Hp}
theorem bof_sl {v : V} {d : D} (s : Same G H) (r : RBq κ H G v d) : RSl κ H G (some (some v)) (bof d) := by
  cases d with
  | lst l =>
    obtain ⟨a, xs, rfl, h1, h2⟩ := r.lst s
    exact ⟨a, xs, rfl, h1, h2⟩
  | _ => exact ⟨v, rfl, r.elim id fun ⟨_, _, _, h, _⟩ => nomatch h⟩
theorem inis_slot (s : Same G H) : ∀ {ms : List Bool} {vs : List V} {ds : List D}, RBs κ H G ms vs ds → ∀ (i : Nat) (z : Sl), (inis ms ds)[i]? = some z → RSl κ H G (vs.map some)[i]? z ∧ (∀ l, z ≠ .ow l ∧ z ≠ .lk l)
  | _, _, _, .nil, i, z, e => by simp [inis] at e
  | _, _, _, .sh r t, 0, z, e => by
    simp only [inis, List.getElem?_cons_zero, Option.some.injEq] at e
    subst e
    exact ⟨⟨_, rfl, r⟩, shno⟩
  | _, _, _, .bo r t, 0, z, e => by
    simp only [inis, List.getElem?_cons_zero, Option.some.injEq] at e
    subst e
    refine ⟨bof_sl s r, fun l => ?_⟩
    unfold bof
    split <;> exact And.intro (fun z => nomatch z) (fun z => nomatch z)
  | _, _, _, .sh r t, i + 1, z, e => by
    simp only [inis, List.getElem?_cons_succ] at e
    exact inis_slot s t i z e
  | _, _, _, .bo r t, i + 1, z, e => by
    simp only [inis, List.getElem?_cons_succ] at e
    exact inis_slot s t i z e
theorem inis_len : ∀ {ms : List Bool} {ds : List D}, ds.length = ms.length → (inis ms ds).length = ms.length
  | [], [], _ => rfl
  | [], _ :: _, h => by cases h
  | _ :: _, [], h => by cases h
  | true :: ms, d :: ds, h => by
    simp only [inis, List.length_cons]
    rw [inis_len (by simpa using h)]
  | false :: ms, d :: ds, h => by
    simp only [inis, List.length_cons]
    rw [inis_len (by simpa using h)]
theorem rep_start {N : List Str} {ms : List Bool} {vs : List V} {ds : List D} {k : Nat} (s : Same G H) (r : RBs κ H G ms vs ds) (hk : N.length = ms.length + k) : Rep κ H G (start N vs) (inis ms ds ++ List.replicate k .un) := by
  obtain ⟨l1, l2⟩ := r.len
  have l3 := inis_len l2
  have nown : ∀ (i : Nat) (z : Sl), (inis ms ds ++ List.replicate k Sl.un)[i]? = some z → ∀ l, z ≠ .ow l ∧ z ≠ .lk l := fun i z e => by
    by_cases hi : i < ms.length
    · rw [List.getElem?_append_left (by rw [l3]; exact hi)] at e
      exact (inis_slot s r i z e).2
    · rw [List.getElem?_append_right (by rw [l3]; omega)] at e
      have := List.mem_of_getElem? e
      rw [List.mem_replicate] at this
      rw [this.2]
      exact fun l => And.intro (fun z => nomatch z) (fun z => nomatch z)
  have none_own : ∀ i a, ¬ Own (start N vs) (inis ms ds ++ List.replicate k Sl.un) i a := fun i a o => by
    obtain ⟨_, l, h | h⟩ := o
    · exact (nown i _ h l).1 rfl
    · exact (nown i _ h l).2 rfl
  refine ⟨s, ?_, fun i z e => ?_, fun i j a o => (none_own i a o).elim, fun i a o => (none_own i a o).elim⟩
  · unfold L2.start
    rw [List.length_append, List.length_append, List.length_map, List.length_replicate, List.length_replicate, l3]
    omega
  · by_cases hi : i < ms.length
    · rw [List.getElem?_append_left (by rw [l3]; exact hi)] at e
      unfold L2.start
      rw [List.getElem?_append_left (by rw [List.length_map]; omega)]
      exact (inis_slot s r i z e).1
    · rw [List.getElem?_append_right (by rw [l3]; omega)] at e
      have := List.mem_of_getElem? e
      rw [List.mem_replicate] at this
      rw [this.2]
      trivial
/-- the end of a def's proof -/
theorem v_end {N : List Str} {ms : List Bool} {k : Nat} {body : Ss} {vs : List V} {Q : VK} {E : XK} (hk : N.length = ms.length + k) (h : spV κ ms (runDef ms k body) vs H Q E) :
    tS κ (fun c d _ H' => E c d H') body { nx := fun _ H' => Q .non H', rt := Q } (start N vs) H := by
  obtain ⟨G, ds, s, r, q⟩ := h
  have rp := rep_start (N := N) (k := k) s r hk
  have nm : ∀ a, ¬ Mt (start N vs) (inis ms ds ++ List.replicate k Sl.un) a := fun a m => by
    obtain ⟨i', l', e1, e2⟩ := m
    by_cases hi : i' < ms.length
    · rw [List.getElem?_append_left (by rw [inis_len r.len.2]; exact hi)] at e2
      exact ((inis_slot s r i' _ e2).2 l').1 rfl
    · rw [List.getElem?_append_right (by rw [inis_len r.len.2]; omega)] at e2
      have := List.mem_of_getElem? e2
      rw [List.mem_replicate] at this
      cases this.2
  refine ⟨G, _, rp, ?_⟩
  unfold runDef at q
  cases z : body (inis ms ds ++ List.replicate k Sl.un) with
  | none => rw [z] at q; exact q
  | some o => cases o with
    | nx e =>
      rw [z] at q
      exact fun σ' H' G' r' f => q .non H' G' (fun a o h => f.hk a o h (nm a)) f.gk r'.sub (fun a o h g => f.gn a o h g (nm a)) .non
    | bk e => rw [z] at q; exact q.elim
    | ct e => rw [z] at q; exact q.elim
    | rt x =>
      rw [z] at q
      intro v H' G' s' rr f
      refine q v H' G' (fun a o h => f.hk a o h (nm a)) f.gk s' (fun a o h g => f.gn a o h g (nm a)) ?_
      cases x with
      | sh d => exact rr
      | ow l =>
        obtain ⟨a, xs, h1, h2, h3, h4, h5⟩ := rr
        refine ⟨a, xs, h1, ?_, h2, h3, h4⟩
        cases w : H a with
        | none => rfl
        | some o => exact (nm a (h5 o w)).elim
    | ex x e =>
      rw [z] at q
      exact fun c d σ' H' G' r' xr f => q c d H' G' (fun a o h => f.hk a o h (nm a)) f.gk r'.sub (fun a o h g => f.gn a o h g (nm a)) xr
end
/-- a def of the module that keeps its function: callers need no more -/
structure VFn (P : Program) (w : World) (κ : Kx) (mg : Str → Option Value) (base : Heap) (x : Str) (k : Nat) (ms : List Bool) (g : FSem) : Prop where
  ex : ∃ (f : Addr) (fd : FuncData) (ps : List Str), mg x = some (.ref f) ∧ PySem.W.keepIn κ.K (.ref f) = true ∧ FnOk P w κ.K mg base (L2.CX P w) k f fd ps (spV κ ms g) ∧ Binds κ.K fd ps []
def fCall (g : FSem) (m : Sm (List D)) : Sm Rs := bnd m fun ds e => match g ds with
  | some (.rt r) => some (.ok r e)
  | some (.ex x) => some (.ex x e)
  | none => none
section
variable {X : Cx} {κ : Kx} {W : WX} {e : Expr} {es : List Expr} {ms : List Bool} {g : FSem} {mr : Sm (List D)} {k : Nat} {x : Str} {p pos : Pos}
theorem call_post {σ : L2.St} {H G : Hp} {env : En} {vs : List V} {ds : List D} {Q : VK} (r : Rep κ H G σ env) (rv : RBs κ H G ms vs ds) (q : EPost κ W (RV κ) σ H G env (match g ds with
  | some (.rt r) => some (.ok r env)
  | some (.ex x) => some (.ex x env)
  | none => none) Q) : spV κ ms g vs H Q (WE W σ) := by
  refine ⟨G, ds, r.sub, rv, ?_⟩
  have gr : ∀ {H' G' : Hp}, Same H H' → Same G G' → Same G' H' → (∀ a o, H a = some o → G a = none → G' a = none) → Rep κ H' G' σ env ∧ Fr H G σ env H' G' σ env := fun {H' G'} s g1 g2 gn =>
    ⟨r.grow s g1 g2 fun i a o => by
      obtain ⟨⟨xs, h⟩, g0⟩ := r.own o
      exact gn a _ h g0, Fr.same s g1 (fun a o h g0 _ => gn a o h g0) (fun _ _ _ h => h) fun _ _ _ h => h⟩
  cases z : g ds with
  | none => rw [z] at q; exact q
  | some o => cases o with
    | rt y =>
      rw [z] at q
      intro v H' G' s g1 g2 gn rf
      obtain ⟨r1, f1⟩ := gr s g1 g2 gn
      refine q v H' G' r1 ?_ s f1
      cases y with
      | sh d => exact rf
      | ow l =>
        obtain ⟨a, xs, h1, h2, h3, h4, h5⟩ := rf
        exact ⟨a, xs, h1, h3, h4, h5, r.fre h2, fun o h => by rw [h2] at h; cases h⟩
    | ex y =>
      rw [z] at q
      intro c d H' G' s g1 g2 gn xr
      obtain ⟨r1, f1⟩ := gr s g1 g2 gn
      exact q c d H' G' r1 xr s f1
theorem v_call (F : VFn X.prog X.w κ X.mg X.base x k ms g) (hK : X.K = κ.K) (hr : Room k X.A) (tk : Takes X W) (hg : Gl X x) (ha : PA X (e :: es) (tX κ W (RA κ ms) mr)) (hdb : (x == ("__debug__" : Str)) = false := by decide)
    (he : starEach (e :: es) X.env = (false, eval e X.env) :: starEach es X.env := by rfl) (hpl : (backTo pos (starEach es X.env)).any (·.1) = false := by rfl) : PE X (.Call (.Name x p) (e :: es) [] pos) (tX κ W (RV κ) (fCall g mr)) := by
  obtain ⟨f, fd, ps, hm, hk, F1, hb⟩ := F.ex
  rw [← hK] at hk F1 hb
  refine PE.imp (pe_callS F1 hr hg hm hk hb (fun σ => passAt tk σ) ha hdb he hpl) fun σ H Q ⟨G, env, r, q⟩ => ?_
  exact bind_post r q fun ds e1 vs H1 G1 em r1 rv s1 f1 q1 => call_post r1 rv q1
end
def fM2 (f : List Nat → D → D → Option Rs) (mo me me2 : Sm D) : Sm Rs := bnd mo fun x => match x with
  | .str w => bnd me fun y => bnd me2 fun y2 e => match f w y y2 with
    | some z => some (.ok z e)
    | none => none
  | _ => fun _ => none
def opFind3 : List Nat → D → D → Option Rs
  | a, .str b, .int i => some (.sh (.int (Txt.find3 (S a) (S b) i)))
  | _, _, _ => none
def opStarts3 : List Nat → D → D → Option Rs
  | a, .str b, .int i => some (.sh (.bl (Txt.startswith3 (S a) (S b) i)))
  | _, _, _ => none
section
variable {X : Cx} {κ : Kx} {W : WX} {o e e2 : Expr} {mo me me2 : Sm D} {pos apos : Pos}
theorem m2_tr {r : V → List V → Hp → VK → Prop} {f : List Nat → D → D → Option Rs} (hs : ∀ (w b : List Nat) (i : Int) (z : Rs) (Q : VK) (H G : Hp) (σ : L2.St) (env : En), f w (.str b) (.int i) = some z → Rep κ H G σ env → EPost κ W (RV κ) σ H G env (some (.ok z env)) Q → r (.str (S w)) [.str (S b), .int i] H Q) (hn : ∀ w x y z, f w x y = some z → ∃ b i, x = .str b ∧ y = .int i)
    {σ : L2.St} {H : Hp} {Q : VK} (h : tX κ W (RV κ) (fM2 f mo me me2) σ H Q) : tBM κ.K "str" r (tX κ W (RB κ) mo) (tCons (tX κ W (RB κ) me) (tCons (tX κ W (RB κ) me2) tNil)) σ H Q := by
  obtain ⟨G, env, rp, q⟩ := h
  refine bind_post rp q fun dx e1 x H1 G1 _ rp1 rx s1 f1 q1 => ?_
  cases dx with
  | str w =>
    rw [RBq.str rx]
    refine ⟨rfl, ?_⟩
    refine bind_post rp1 q1 fun dy e2 y H2 G2 _ rp2 ry s2 f2 q2 => ?_
    refine bind_post rp2 q2 fun dz e3 u H3 G3 _ rp3 ru s3 f3 q3 => ?_
    cases z : f w dy dz with
    | none => rw [z] at q3; exact q3.elim
    | some v =>
      rw [z] at q3
      obtain ⟨b, i, rfl, rfl⟩ := hn _ _ _ _ z
      rw [RBq.str ry, RBq.int ru]
      exact hs w b i v Q H3 G3 σ e3 z rp3 q3
  | _ => exact q1.elim
theorem v_find3 (hK : X.K = κ.K := by rfl) (ho : PE X o (tX κ W (RB κ) mo)) (he : PE X e (tX κ W (RB κ) me)) (he2 : PE X e2 (tX κ W (RB κ) me2)) (hbase : attributeBase o "find" X.env (eval o X.env) = eval o X.env := by rfl)
    (hfew : ((backTo pos (starEach [e, e2] X.env)).all (fun x => !x.1) && (backToKw pos (keywordEach [] X.env)).all (fun x => x.1.isSome)
      && decide (([e, e2] : List Expr).length + ([] : List Keyword).length + (if ([] : List Keyword).isEmpty then 0 else 1) < 30)) = true := by rfl)
    (hline : (apos.endLine == pos.line) = true := by rfl) (hs : starEach [e, e2] X.env = (false, eval e X.env) :: starEach [e2] X.env := by rfl) (hs2 : starEach [e2] X.env = (false, eval e2 X.env) :: starEach [] X.env := by rfl) (hplain : (backTo pos (starEach [e2] X.env)).any (·.1) = false := by rfl) :
    PE X (.Call (.Attribute o "find" apos) [e, e2] [] pos) (tX κ W (RV κ) (fM2 opFind3 mo me me2)) := PE.imp (pe_bm PySem.F.plainAttrs_str PySem.F.slot_str_find PySem.F.type_str_find mt_find3 ho (pa_cons he (pa_cons he2 pa_nil hs2) hs) hbase hfew hline hs hplain) fun σ H Q h => by
  rw [hK]
  refine m2_tr (fun w b i z Q H G σ env e r q => ?_) (fun w x y z e => ?_) h
  · cases e
    exact ⟨_, _, _, rfl, rfl, post_sh r (.int _) q⟩
  · unfold opFind3 at e
    split at e
    · exact ⟨_, _, rfl, rfl⟩
    · cases e
theorem v_starts3 (hK : X.K = κ.K := by rfl) (ho : PE X o (tX κ W (RB κ) mo)) (he : PE X e (tX κ W (RB κ) me)) (he2 : PE X e2 (tX κ W (RB κ) me2)) (hbase : attributeBase o "startswith" X.env (eval o X.env) = eval o X.env := by rfl)
    (hfew : ((backTo pos (starEach [e, e2] X.env)).all (fun x => !x.1) && (backToKw pos (keywordEach [] X.env)).all (fun x => x.1.isSome)
      && decide (([e, e2] : List Expr).length + ([] : List Keyword).length + (if ([] : List Keyword).isEmpty then 0 else 1) < 30)) = true := by rfl)
    (hline : (apos.endLine == pos.line) = true := by rfl) (hs : starEach [e, e2] X.env = (false, eval e X.env) :: starEach [e2] X.env := by rfl) (hs2 : starEach [e2] X.env = (false, eval e2 X.env) :: starEach [] X.env := by rfl) (hplain : (backTo pos (starEach [e2] X.env)).any (·.1) = false := by rfl) :
    PE X (.Call (.Attribute o "startswith" apos) [e, e2] [] pos) (tX κ W (RV κ) (fM2 opStarts3 mo me me2)) := PE.imp (pe_bm PySem.F.plainAttrs_str PySem.F.slot_str_startswith PySem.F.type_str_startswith mt_startswith3 ho (pa_cons he (pa_cons he2 pa_nil hs2) hs) hbase hfew hline hs hplain) fun σ H Q h => by
  rw [hK]
  refine m2_tr (fun w b i z Q H G σ env e r q => ?_) (fun w x y z e => ?_) h
  · cases e
    exact ⟨_, _, _, rfl, rfl, post_sh r (.bl _) q⟩
  · unfold opStarts3 at e
    split at e
    · exact ⟨_, _, rfl, rfl⟩
    · cases e
end
theorem spV_len {κ : Kx} {ms : List Bool} {g : FSem} {vs : List V} {H : Hp} {Q : VK} {E : XK} (h : spV κ ms g vs H Q E) : vs.length = ms.length := by
  obtain ⟨G, ds, _, r, _⟩ := h
  exact r.len.1
/-! ### the row's end -/
def spLaw (K : PySem.W.Frag) : Sp := fun vs H Q _ => ∃ (a : Addr) (ns : List Int), vs = [.ref a] ∧ SqL K H a (ns.map V.int) ∧ ns.length ≤ 63 ∧ (∀ z ∈ ns, Builtin.Int.intBits z ≤ 1048576) ∧ ∀ H', Q (.bl true) H'
/-- the law's function tells True of every script -/
def LawTrue (g : FSem) : Prop := ∀ ns : List Int, ns.length ≤ 63 → (∀ z ∈ ns, Builtin.Int.intBits z ≤ 1048576) → g [.scr ns] = some (.rt (.sh (.bl true)))
theorem law_sp {κ : Kx} {g : FSem} {m : Bool} (hg : LawTrue g) (vs : List V) (H : Hp) (Q : VK) (E : XK) (h : spLaw κ.K vs H Q E) : spV κ [m] g vs H Q E := by
  obtain ⟨a, ns, rfl, hs, hl, hb, k⟩ := h
  have rp : Rp κ H (.ref a) (.scr ns) := .scr hs
  refine ⟨H, [.scr ns], Same.refl H, ?_, ?_⟩
  · cases m with
    | true => exact .bo (.inl rp) .nil
    | false => exact .sh rp .nil
  · rw [hg ns hl hb]
    intro v H' G' _ _ _ _ r
    cases r
    exact k H'
theorem cx_out {P : Program} {w : World} {H : Hp} {s : Shared} {e : Value} {s' : Shared} (h : L2.CX P w [] H s (fun _ _ _ => False) e s') : False := by
  obtain ⟨_, _, _, _, _, _, _, _, _, _, _, _, z⟩ := h
  exact z.elim
theorem walk_law {l : PySem.W.OpenLaw} {x : Str} {k : Nat} {q : Program} {loose : List Str} {XP : (Str → Option Value) → Heap → Prop} {YP : World → Heap → Prop} {d : DefRec} {K : Params → PySem.W.Frag} (hn : l.most = some 63) (hdf : d.params.defaults = []) (hr : Room k PySem.callerA)
    (hY : ∀ (w : World) (h : Heap), YP w h → (K w.params).In h)
    (F : ∀ (w : World) (mg : Str → Option Value) (fa : Addr) (h : Heap), (K w.params).In h → h.Ns mainGlobals mg → mg d.name = some (.ref fa) →
      ∃ fd : FuncData, (∀ (s : Shared) (u : Value), BindsTo s fd ⟨[u], []⟩ [(x, u)]) ∧ ∀ base : Heap, (K w.params).In base → base.Ns mainGlobals mg → FnOk l.prog w (K w.params) mg base (L2.CX l.prog w) k fa fd [x] (spLaw (K w.params))) :
    PySem.W.WalkO q loose XP YP l.row.toRowW d [] (fun f vs => PySem.call f vs) :=
  L2.walk_ofB (n := 63) (k := k) (x := x) (CX := fun w => L2.CX l.prog w) (sp := fun w => spLaw (K w.params)) hn (by decide) hdf hr hY F (fun _ _ a ns hl hb _ hS => ⟨a, ns, rfl, hS, hl, hb, fun _ => rfl⟩) fun _ _ _ _ _ z => cx_out z
end Vs

set_option Elab.async false
set_option linter.all false
set_option maxRecDepth 100000
set_option maxHeartbeats 2000000
/-! Vs2: comprehensions. -/
namespace Vs
open PySem L2
abbrev WF : WX := fun _ _ _ _ => False
def unE : List Nat → En → En
  | [], e => e
  | v :: vs, e => (unE vs e).set v .un
def UnAt (vs : List Nat) (env : En) : Prop := ∀ v ∈ vs, ∀ s, env[v]? = some s → s = .un
def Off (vs : List Nat) (σ σ' : L2.St) : Prop := ∀ j, j ∉ vs → σ[j]? = σ'[j]?
theorem Off.symm {vs : List Nat} {σ σ' : L2.St} (o : Off vs σ σ') : Off vs σ' σ := fun j h => (o j h).symm
theorem off_wipe {vs : List Nat} {σ : L2.St} : Off vs σ (wipe σ vs) := fun j h => (wipe_out h).symm
theorem wipe_in {σ : L2.St} {j : Nat} : ∀ {vs : List Nat}, j ∈ vs → (wipe σ vs)[j]? = if j < σ.length then some none else none
  | v :: vs, h => by
    unfold wipe
    by_cases e : v = j
    · subst e
      by_cases hl : v < σ.length
      · rw [if_pos hl, List.getElem?_set_self (by rw [wipe_length]; exact hl)]
      · rw [if_neg hl, List.getElem?_eq_none (by rw [List.length_set, wipe_length]; omega)]
    · rw [List.getElem?_set_ne e]
      exact wipe_in ((List.mem_cons.mp h).resolve_left fun w => e w.symm)
theorem wipe_eq {vs : List Nat} {σ σ' : L2.St} (o : Off vs σ σ') (l : σ'.length = σ.length) : wipe σ' vs = wipe σ vs := by
  refine List.ext_getElem? fun j => ?_
  by_cases h : j ∈ vs
  · rw [wipe_in h, wipe_in h, l]
  · rw [wipe_out h, wipe_out h, o j h]
section
variable {κ : Kx} {H G H' G' : Hp} {σ σ' τ τ' : L2.St} {env env' : En} {vs : List Nat} {a L : Addr}
theorem unE_len : ∀ vs : List Nat, (unE vs env).length = env.length
  | [] => rfl
  | v :: vs => by unfold unE; rw [List.length_set, unE_len vs]
theorem unE_at : ∀ vs : List Nat, UnAt vs (unE vs env)
  | [], v, h, _, _ => nomatch h
  | v :: vs, w, h, s, e => by
    unfold unE at e
    by_cases q : v = w
    · subst q
      by_cases hl : v < (unE vs env).length
      · rw [List.getElem?_set_self hl] at e
        exact (Option.some.inj e).symm
      · rw [List.getElem?_eq_none (by rw [List.length_set]; omega)] at e
        cases e
    · rw [List.getElem?_set_ne q] at e
      exact unE_at vs w ((List.mem_cons.mp h).resolve_left fun z => q z.symm) s e
theorem Rep.drop1 (r : Rep κ H G σ env) (i : Nat) : Rep κ H G σ (env.set i .un) := by
  have hs : ∀ l, Sl.un ≠ .ow l ∧ Sl.un ≠ .lk l := fun l => And.intro (fun z => nomatch z) (fun z => nomatch z)
  have look : ∀ {j : Nat} {s : Sl}, (env.set i .un)[j]? = some s → s = .un ∨ env[j]? = some s := fun {j s} e => by
    by_cases w : i = j
    · subst w
      by_cases hl : i < env.length
      · rw [List.getElem?_set_self hl] at e
        exact .inl (Option.some.inj e).symm
      · rw [List.getElem?_eq_none (by rw [List.length_set]; omega)] at e
        cases e
    · rw [List.getElem?_set_ne w] at e
      exact .inr e
  refine ⟨r.sub, by rw [List.length_set]; exact r.len, fun j s e => ?_, fun j k a o1 o2 => r.inj j k a (own_set hs o1).2 (own_set hs o2).2, fun j a o k m q1 q2 => ?_⟩
  · rcases look e with rfl | e
    · trivial
    · exact r.slot j s e
  · rcases look q2 with e | e
    · cases e
    · exact r.nbo j a (own_set hs o).2 k m q1 e
theorem Fr.drop1 (i : Nat) : Fr H G σ env H G σ (env.set i .un) := Fr.same (Same.refl _) (Same.refl _) (fun _ _ _ h _ => h) (fun _ _ _ m => mt_set (s := .un) (fun l (z : Sl.un = .ow l) => by cases z) m) fun j s hf e => by
  by_cases w : i = j
  · subst w
    by_cases hl : i < env.length
    · rw [List.getElem?_set_self hl] at e
      cases e
      cases hf
    · rw [List.getElem?_eq_none (by rw [List.length_set]; omega)] at e
      cases e
  · rw [List.getElem?_set_ne w] at e
    exact e
theorem Rep.unE (r : Rep κ H G σ env) : ∀ vs : List Nat, Rep κ H G σ (unE vs env)
  | [] => r
  | v :: vs => (Rep.unE r vs).drop1 v
theorem Fr.unE : ∀ vs : List Nat, Fr H G σ env H G σ (unE vs env)
  | [] => Fr.refl
  | v :: vs => (Fr.unE vs).trans (Fr.drop1 v)
theorem un_off {i : Nat} {s : Sl} (u : UnAt vs env) (o : Off vs σ σ') (e : env[i]? = some s) (h : s ≠ .un) : σ[i]? = σ'[i]? := o i fun m => h (u i m s e)
theorem Mt.off (u : UnAt vs env) (o : Off vs σ σ') (m : Mt σ env a) : Mt σ' env a := by
  obtain ⟨i, l, e1, e2⟩ := m
  exact ⟨i, l, by rw [← un_off u o e2 (fun z => nomatch z)]; exact e1, e2⟩
theorem Own.off {i : Nat} (u : UnAt vs env) (o : Off vs σ σ') (m : Own σ env i a) : Own σ' env i a := by
  obtain ⟨e, l, h | h⟩ := m
  · exact ⟨by rw [← un_off u o h (fun z => nomatch z)]; exact e, l, .inl h⟩
  · exact ⟨by rw [← un_off u o h (fun z => nomatch z)]; exact e, l, .inr h⟩
theorem Rep.off (u : UnAt vs env) (o : Off vs σ σ') (hl : σ'.length = σ.length) (r : Rep κ H G σ env) : Rep κ H G σ' env := by
  refine ⟨r.sub, hl.trans r.len, fun i s e => ?_, fun i j a o1 o2 => r.inj i j a (o1.off u o.symm) (o2.off u o.symm), fun i a w j l q1 q2 => r.nbo i a (w.off u o.symm) j l (by rw [un_off u o q2 (fun z => nomatch z)]; exact q1) q2⟩
  by_cases h : s = .un
  · subst h; trivial
  · rw [← un_off u o e h]
    exact r.slot i s e
theorem Fr.offL (u : UnAt vs env) (o : Off vs σ σ') (f : Fr H G σ env H' G' τ env') : Fr H G σ' env H' G' τ env' where
  hk := fun a w h n => f.hk a w h fun m => n (m.off u o)
  gk := f.gk
  gn := fun a w h g n => f.gn a w h g fun m => n (m.off u o)
  mm := fun a w h m => (f.mm a w h m).off u o
  lk := fun i s hf e => by
    obtain ⟨e1, e2⟩ := f.lk i s hf e
    refine ⟨e1, e2.trans (un_off u o e1 fun z => ?_)⟩
    subst z
    cases hf
theorem Fr.offR (u : UnAt vs env') (o : Off vs τ τ') (f : Fr H G σ env H' G' τ env') : Fr H G σ env H' G' τ' env' where
  hk := f.hk
  gk := f.gk
  gn := f.gn
  mm := fun a w h m => f.mm a w h (m.off u o.symm)
  lk := fun i s hf e => by
    obtain ⟨e1, e2⟩ := f.lk i s hf e
    refine ⟨e1, (un_off u o e fun z => ?_).symm.trans e2⟩
    subst z
    cases hf
/-- a list in no slot stays so -/
theorem Fre.keep {u : HO} (f : Fr H G σ env H' G' σ' env') (h : H L = some u) (p : Fre σ env L) : Fre σ' env' L := by
  refine ⟨fun i o => ?_, fun j l e1 e2 => ?_⟩
  · obtain ⟨e, l, w | w⟩ := o
    · obtain ⟨k, hk⟩ := Rep.lock (i := 0) (f.mm L u h ⟨i, l, e, w⟩)
      exact p.1 k hk
    · obtain ⟨e1, e2⟩ := f.lk i _ rfl w
      exact p.1 i ⟨e2 ▸ e, l, .inr e1⟩
  · obtain ⟨e3, e4⟩ := f.lk j _ rfl e2
    exact p.2 j l (e4 ▸ e1) e3
theorem Fre.mt (p : Fre σ env L) : ¬ Mt σ env L := fun m => by
  obtain ⟨k, hk⟩ := Rep.lock (i := 0) m
  exact p.1 k hk
theorem Fre.off (u : UnAt vs env) (o : Off vs σ σ') (p : Fre σ env L) : Fre σ' env L :=
  ⟨fun i w => p.1 i (w.off u o.symm), fun j l e1 e2 => p.2 j l (by rw [un_off u o e2 (fun z => nomatch z)]; exact e1) e2⟩
/-- the list that is made -/
structure DA (κ : Kx) (H G : Hp) (σ : L2.St) (env : En) (L : Addr) (acc : List D) (xs : List V) : Prop where
  h : H L = some (.lst xs)
  g : G L = none
  r : RpA κ G xs acc
  f : Fre σ env L
theorem DA.keep {acc : List D} {xs : List V} (d : DA κ H G σ env L acc xs) (s : Same H H') (f : Fr H G σ env H' G' σ' env') : DA κ H' G' σ' env' L acc xs :=
  ⟨s L _ d.h, f.gn L _ d.h d.g d.f.mt, d.r.mono f.gk, d.f.keep f d.h⟩
theorem Rep.updD {acc : List D} {xs ys : List V} (r : Rep κ H G σ env) (d : DA κ H G σ env L acc xs) : Rep κ (upd H L (.lst ys)) G σ env := by
  refine ⟨same_upd r.sub d.g, r.len, fun i s e => ?_, r.inj, r.nbo⟩
  have t := r.slot i s e
  cases s with
  | un => trivial
  | sh x => exact t
  | ow m =>
    obtain ⟨b, zs, t1, t2, t3, t4⟩ := t
    have n : b ≠ L := fun z => d.f.1 i (z ▸ ⟨t1, m, .inl e⟩)
    exact ⟨b, zs, t1, by rw [upd_ne n]; exact t2, t3, t4⟩
  | lk m =>
    obtain ⟨b, zs, t1, t2, t3, t4⟩ := t
    have n : b ≠ L := fun z => d.f.1 i (z ▸ ⟨t1, m, .inr e⟩)
    exact ⟨b, zs, t1, by rw [upd_ne n]; exact t2, t3, t4⟩
  | bo m =>
    obtain ⟨b, zs, t1, t2, t4⟩ := t
    have n : b ≠ L := fun z => d.f.2 i m (z ▸ t1) e
    exact ⟨b, zs, t1, by rw [upd_ne n]; exact t2, t4⟩
theorem Fr.updD {u : HO} (h : H L = none) (f : Fr H G σ env H' G' σ' env') : Fr H G σ env (upd H' L u) G' σ' env' where
  hk := fun a o e n => by rw [upd_ne (ne_of_none e h)]; exact f.hk a o e n
  gk := f.gk
  gn := f.gn
  mm := f.mm
  lk := f.lk
end
/-- a target whose names are the comprehension's own -/
def TgOff (κ : Kx) (vs : List Nat) (g : TG) (f : D → En → Option En) : Prop := ∀ (v : V) (d : D) (σ : L2.St) (H G : Hp) (env e1 : En) (Q : L2.St → Hp → Prop), f d env = some e1 → Rep κ H G σ env → Rp κ G v d → (∀ σ1, Rep κ H G σ1 e1 → Fr H G σ env H G σ1 e1 → Off vs σ σ1 → σ1.length = σ.length → Q σ1 H) → g v σ H Q
section
variable {κ : Kx} {vs : List Nat}
theorem off_set {σ : L2.St} {i : Nat} {x : Option V} (h : i ∈ vs) : Off vs σ (σ.set i x) := fun j n => by
  rw [List.getElem?_set_ne (fun z : i = j => n (z ▸ h))]
theorem to_name (i : Nat) (hi : (vs.elem i) = true) : TgOff κ vs (gName i) (tgN i) := fun v d σ H G env e1 Q e r h q => by
  have hi := List.mem_of_elem_eq_true hi
  unfold tgN at e
  by_cases hl : i < env.length
  · rw [if_pos hl] at e
    cases e
    obtain ⟨a, b⟩ := rep_sh r hl h
    exact q _ a b (off_set hi) (List.length_set ..)
  · rw [if_neg hl] at e; cases e
theorem tos_names : ∀ (is : List Nat) (hi : ∀ i ∈ is, i ∈ vs) (us : List V) (ds : List D) (σ : L2.St) (H G : Hp) (env e1 : En) (Q : L2.St → Hp → Prop), setAll is ds env = some e1 → Rep κ H G σ env → RpA κ G us ds → (∀ σ1, Rep κ H G σ1 e1 → Fr H G σ env H G σ1 e1 → Off vs σ σ1 → σ1.length = σ.length → Q σ1 H) → gNames is us σ H Q
  | [], _, us, ds, σ, H, G, env, e1, Q, e, r, h, q => by
    cases h with
    | nil => cases e; exact ⟨rfl, q σ r Fr.refl (fun _ _ => rfl) rfl⟩
    | cons => cases e
  | i :: is, hi, us, ds, σ, H, G, env, e1, Q, e, r, h, q => by
    cases h with
    | nil => cases e
    | cons h t =>
      dsimp only [setAll] at e
      split at e
      · rename_i hl
        obtain ⟨a, b⟩ := rep_sh r hl h
        exact ⟨_, _, rfl, tos_names is (fun j m => hi j (List.mem_cons_of_mem _ m)) _ _ _ H G _ e1 Q e a t fun σ1 r1 f1 o1 l1 => q σ1 r1 (b.trans f1) (fun j n => (off_set (hi i List.mem_cons_self) j n).trans (o1 j n)) (l1.trans (List.length_set ..))⟩
      · cases e
theorem to_tup (is : List Nat) {n : Nat} (hn : n = is.length) (hi : (is.all fun i => vs.elem i) = true) : TgOff κ vs (gTup κ.K n (gNames is)) (tgT is) := fun v d σ H G env e1 Q e r h q => by
  have hi : ∀ i ∈ is, i ∈ vs := fun i m => List.mem_of_elem_eq_true (List.all_eq_true.mp hi i m)
  subst hn
  cases h with
  | tup h t =>
    have e' : setAll is _ env = some e1 := e
    exact ⟨_, _, rfl, SqT.of (r.sub _ _ h), by rw [t.length, setAll_len e'], tos_names is hi _ _ σ H G env e1 Q e' r t q⟩
  | _ => cases e
end
def lcL (f : D → En → Option En) (tt : Sm Bool) (te : Sm D) (vs : List Nat) : List D → List D → Sm Rs
  | [], acc, e => some (.ok (.ow acc) e)
  | d :: ds, acc, e => match f d e with
    | none => none
    | some e1 => match tt e1 with
      | some (.ok true e2) => match te e2 with
        | some (.ok y e3) => lcL f tt te vs ds (acc ++ [y]) (unE vs e3)
        | _ => none
      | some (.ok false e2) => lcL f tt te vs ds acc (unE vs e2)
      | _ => none
def fLc (mi : Sm (List D)) (f : D → En → Option En) (tt : Sm Bool) (te : Sm D) (vs : List Nat) : Sm Rs := bnd mi fun ds e => if ds.length ≤ szl then lcL f tt te vs ds [] (unE vs e) else none
def tYs : Sm Bool := ret true
section
variable {X : Cx} {κ : Kx} {W : WX}
theorem lc_tr {wi : TI} {g : TG} {ttr : TT} {ter : TE} {vs : List Nat} {mi : Sm (List D)} {f : D → En → Option En} {tt : Sm Bool} {te : Sm D} {σ : L2.St} {H : Hp} {Q : VK}
    (hwi : ∀ σ H (P : It → Hp → Prop), tX κ W (RI κ) mi σ H P → wi σ H P) (hf : TgOff κ vs g f) (htt : ∀ σ H P, tX κ WF RT tt σ H P → ttr σ H P) (hte : ∀ σ H P, tX κ WF (RP κ) te σ H P → ter σ H P) (h : tX κ W (RV κ) (fLc mi f tt te vs) σ H Q) : tLc wi g ttr ter vs σ H Q := by
  obtain ⟨G, env, r, q⟩ := h
  refine hwi _ _ _ (bind_post r q fun ds e1 J H1 G1 em r1 rv s1 f1 q1 => ?_)
  obtain ⟨pr, hpr, yl⟩ := rv
  have hsz : ds.length ≤ szl := by
    by_cases hsz : ds.length ≤ szl
    · exact hsz
    · rw [if_neg hsz] at q1; exact q1.elim
  rw [if_pos hsz] at q1
  intro D hD
  have ow : Off vs σ (wipe σ vs) := off_wipe
  have lw : (wipe σ vs).length = σ.length := wipe_length σ vs
  let Inv0 : Nat → Hp → Prop := fun i H' => i ≤ ds.length ∧ ∃ G' env' acc xs, Rep κ H' G' (wipe σ vs) env' ∧ UnAt vs env' ∧ Fr H1 G1 σ e1 H' G' (wipe σ vs) env' ∧ DA κ H' G' (wipe σ vs) env' D acc xs ∧ acc.length ≤ i ∧ Same H1 H' ∧ EPost κ W (RV κ) σ H1 G1 e1 (lcL f tt te vs (ds.drop i) acc env') Q
  refine ⟨fun i m H' => m = ds.length - i ∧ Inv0 i H', ⟨ds.length, by simp, Nat.zero_le _, ?_⟩, ?_⟩
  · obtain ⟨st, rv⟩ := new_ow (xs := []) (l := []) r1 hD .nil
    obtain ⟨a0, xs0, e0, d1, d2, d3, d4, _⟩ := rv
    cases e0
    have u := unE_at (env := e1) vs
    have fu : Fr (upd H1 D (.lst [])) G1 σ e1 (upd H1 D (.lst [])) G1 (wipe σ vs) (unE vs e1) := (Fr.unE vs).offR u ow
    exact ⟨G1, unE vs e1, [], [], (st.rep.unE vs).off u ow lw, u, st.fr.trans fu, ⟨upd_same, d2, .nil, d4.keep fu upd_same⟩, Nat.le_refl _, st.same, q1⟩
  rintro i m H2 ⟨rfl, hi2, G2, env2, acc, xs, r2, u2, fr2, da, al, sm, q2⟩
  have y := yl H2 G2 (fun a o pa e => fr2.hk a o e (hpr a pa)) fr2.gk r2.sub i
  by_cases hlt : i < ds.length
  · right
    have ed : ds[i]? = some ds[i] := List.getElem?_eq_getElem hlt
    have dr : ds.drop i = ds[i] :: ds.drop (i + 1) := (List.drop_eq_getElem_cons hlt)
    obtain ⟨go, yy⟩ := y.1 _ ed
    refine ⟨go, Inv0 (i + 1), fun H' h => ⟨ds.length - (i + 1), by omega, rfl, h⟩, fun x H3 hy => ?_⟩
    rw [dr] at q2
    dsimp only [lcL] at q2
    cases z : f ds[i] env2 with
    | none => rw [z] at q2; exact q2.elim
    | some e3 =>
      rw [z] at q2
      dsimp only at q2
      have item : ∃ G3, Rep κ H3 G3 (wipe σ vs) env2 ∧ Fr H2 G2 (wipe σ vs) env2 H3 G3 (wipe σ vs) env2 ∧ Rp κ G3 x ds[i] ∧ Same H2 H3 := by
        rcases yy x H3 hy with ⟨rfl, rx⟩ | ⟨T, ts, es, hT, rfl, rfl, e4, rx⟩
        · exact ⟨G2, r2, Fr.refl, rx, Same.refl _⟩
        · have st := new_sh (o := .tup ts) r2 hT
          refine ⟨upd G2 T (.tup ts), st.rep, st.fr, ?_, st.same⟩
          rw [e4]
          exact .tup upd_same (rx.mono (same_new (Same.none r2.sub hT)))
      obtain ⟨G3, r3, fr3, rx, s3⟩ := item
      refine hf x ds[i] (wipe σ vs) H3 G3 env2 e3 _ z r3 rx fun σ4 r4 fr4 off4 len4 => ?_
      have off : Off vs σ σ4 := fun j n => (ow j n).trans (off4 j n)
      have len : σ4.length = σ.length := len4.trans lw
      refine ⟨wipe_eq off len, htt _ _ _ ⟨G3, e3, r4, ?_⟩⟩
      have da3 := (da.keep s3 fr3).keep (Same.refl _) fr4
      have frA := (fr2.trans fr3).trans fr4
      have smA := sm.trans s3
      cases w : tt e3 with
      | none => rw [w] at q2; exact q2
      | some o => cases o with
        | ex x5 e5 => rw [w] at q2; exact q2.elim
        | ok b e5 =>
          rw [w] at q2
          intro b' H5 G5 r5 rb s5 fr5
          cases rb
          have da5 := da3.keep s5 fr5
          have frB := frA.trans fr5
          have back : ∀ {e : En}, Off vs σ4 (wipe σ vs) := fun {e} j n => (off j n).symm.trans (ow j n)
          cases b with
          | false =>
            rw [if_neg (by decide)]
            have u := unE_at (env := e5) vs
            have fu : Fr H5 G5 σ4 e5 H5 G5 (wipe σ vs) (unE vs e5) := (Fr.unE vs).offR u (back (e := e5))
            exact ⟨hlt, G5, unE vs e5, acc, xs, (r5.unE vs).off u (back (e := e5)) (lw.trans len.symm), u, frB.trans fu, da5.keep (Same.refl _) fu, by omega, smA.trans s5, q2⟩
          | true =>
            rw [if_pos rfl]
            dsimp only at q2
            refine hte _ _ _ ⟨G5, e5, r5, ?_⟩
            cases w6 : te e5 with
            | none => rw [w6] at q2; exact q2
            | some o6 => cases o6 with
              | ex x6 e6 => rw [w6] at q2; exact q2.elim
              | ok yd e6 =>
                rw [w6] at q2
                intro v H6 G6 r6 rv6 s6 fr6
                have da6 := da5.keep s6 fr6
                have u := unE_at (env := e6) vs
                have fu : Fr H6 G6 σ4 e6 H6 G6 (wipe σ vs) (unE vs e6) := (Fr.unE vs).offR u (back (e := e6))
                have da7 := da6.keep (Same.refl _) fu
                have r7 := (r6.unE vs).off u (back (e := e6)) (lw.trans len.symm)
                have hxs : xs.length = acc.length := da.r.length
                refine ⟨xs, da6.h, szl_lt (by omega), hlt, G6, unE vs e6, acc ++ [yd], xs ++ [v], r7.updD da7, u, ((frB.trans fr6).trans fu).updD hD, ⟨upd_same, da7.g, da7.r.append (.cons rv6 .nil), da7.f⟩, ?_, ?_, q2⟩
                · rw [List.length_append, List.length_singleton]; omega
                · intro a o e
                  rw [upd_ne (ne_of_none e hD)]
                  exact s6 a o (s5 a o (smA a o e))
  · left
    have e : i = ds.length := by omega
    subst e
    refine ⟨y.2 (Nat.le_refl _), ?_⟩
    rw [List.drop_length] at q2
    have ob : Off vs (wipe σ vs) σ := ow.symm
    exact q2 (.ref D) H2 G2 (r2.off u2 ob lw.symm) ⟨D, xs, rfl, da.h, da.g, da.r, da.f.off u2 ob, fun o h => by rw [hD] at h; cases h⟩ sm (fr2.offR u2 ob)
variable {elt tg iter : Expr} {ifs : List Expr} {scope : Scope} {own : List (Str × Nat)} {pos spos py : Pos} {g : TG} {mi : Sm (List D)} {f : D → En → Option En} {tt : Sm Bool} {te : Sm D} {vs : List Nat}
theorem pts_yes : PTs X [] (tX κ WF RT tYs) := ⟨fun pins s σ H Q I ⟨G, env, r, q⟩ => pts_nil.run pins s σ H Q I (q true H G r rfl (Same.refl _) Fr.refl)⟩
theorem v_lc (hc : X.calm = true) (hN : X.N.Nodup) (hv : vs = own.map (·.2)) (hi : PI X tg iter (tX κ W (RI κ) mi)) (ok : BlkOk X.N X.env.scope scope own)
    (hg : ∀ (s : Shared) (H : Hp) (C : Addr) (cl : List (Str × Addr)) (fp : List Addr), PG (X.blk s H scope (compEnvC scope cl C X.env) fp) tg g) (hf : TgOff κ vs g f) (ht : ∀ (s : Shared) (H : Hp) (C : Addr) (cl : List (Str × Addr)) (fp : List Addr), PTs (X.blk s H scope (compEnvC scope cl C X.env) fp) ifs (tX κ WF RT tt))
    (he : ∀ (s : Shared) (H : Hp) (C : Addr) (cl : List (Str × Addr)) (fp : List Addr), PE (X.blk s H scope (compEnvC scope cl C X.env) fp) elt (tX κ WF (RP κ) te)) (hs : ∀ x, foldedSetIterable iter X.env x = pure x := by intro _; rfl) :
    PE X (.ListComp elt [⟨tg, iter, ifs, 0⟩] scope pos) (tX κ W (RV κ) (fLc mi f tt te vs)) := by
  subst hv
  exact PE.imp (pe_lc hc hN hi ok hg ht he hs) fun σ H Q h => lc_tr (fun _ _ _ h => h) hf (fun _ _ _ h => h) (fun _ _ _ h => h) h
/-- an own list that is walked in an expression -/
def xLock (i : Nat) (m : Sm Rs) : Sm Rs := fun e => match e[i]? with
  | some (.ow l) => match m (e.set i (.lk l)) with
    | some (.ok r e1) => some (.ok r (unlk i e1))
    | some (.ex x e1) => some (.ex x (unlk i e1))
    | none => none
  | _ => m e
theorem unlk_bo {env : En} {i k : Nat} {m : List D} (q : (unlk i env)[k]? = some (.bo m)) : env[k]? = some (.bo m) := by
  unfold unlk at q
  split at q
  · rename_i l e
    have hi : i < env.length := (List.getElem?_eq_some_iff.mp e).1
    by_cases w : i = k
    · subst w
      rw [List.getElem?_set_self hi] at q
      cases q
    · rw [List.getElem?_set_ne w] at q
      exact q
  · exact q
theorem lock_tr {i : Nat} {m : Sm Rs} {σ : L2.St} {H : Hp} {Q : VK} (h : tX κ W (RV κ) (xLock i m) σ H Q) : tX κ W (RV κ) m σ H Q := by
  obtain ⟨G, env, r, q⟩ := h
  unfold xLock at q
  split at q
  · rename_i l e
    refine ⟨G, _, r.locked e, ?_⟩
    cases w : m (env.set i (.lk l)) with
    | none => rw [w] at q; exact q
    | some o => cases o with
      | ex x e1 =>
        rw [w] at q
        exact fun c d H' G' r' xr s f => q c d H' G' r'.unlocked xr s (f.unlocked e)
      | ok z e1 =>
        rw [w] at q
        intro v H' G' r' rv s f
        refine q v H' G' r'.unlocked ?_ s (f.unlocked e)
        cases z with
        | sh d => exact rv
        | ow l' =>
          obtain ⟨a, xs, h1, h2, h3, h4, h5, h6⟩ := rv
          exact ⟨a, xs, h1, h2, h3, h4, ⟨fun j o => h5.1 j (unlk_own o), fun j k e1 e2 => h5.2 j k e1 (unlk_bo e2)⟩, fun o h => lock_mt (h6 o h)⟩
  · exact ⟨G, env, r, q⟩
theorem v_lock {i : Nat} {m : Sm Rs} {e : Expr} (h : PE X e (tX κ W (RV κ) m)) : PE X e (tX κ W (RV κ) (xLock i m)) := PE.imp h fun σ H Q q => lock_tr q
theorem s_lcm {i : Nat} {y : Str} {m : Sm Rs} (hm : ∀ σ H Q, tX κ W (RV κ) m σ H Q → tX κ W (RV κ) (fLc mi f tt te vs) σ H Q) (hc : X.calm = true) (hN : X.N.Nodup) (hv : vs = own.map (·.2)) (hy : X.N[i]? = some y) (hyl : X.env.scope.names.lookup y = some .local) (hsw : swapsWith (.ListComp elt [⟨tg, iter, ifs, 0⟩] scope pos) (some (.Name y py)) spos.line X.env = pure true) (hi : PI X tg iter (tX κ W (RI κ) mi)) (ok : BlkOk X.N X.env.scope scope own)
    (hg : ∀ (s : Shared) (H : Hp) (C : Addr) (cl : List (Str × Addr)) (fp : List Addr), PG (X.blk s H scope (compEnvC scope cl C X.env) fp) tg g) (hf : TgOff κ vs g f) (ht : ∀ (s : Shared) (H : Hp) (C : Addr) (cl : List (Str × Addr)) (fp : List Addr), PTs (X.blk s H scope (compEnvC scope cl C X.env) fp) ifs (tX κ WF RT tt))
    (he : ∀ (s : Shared) (H : Hp) (C : Addr) (cl : List (Str × Addr)) (fp : List Addr), PE (X.blk s H scope (compEnvC scope cl C X.env) fp) elt (tX κ WF (RP κ) te)) (hs : ∀ x, foldedSetIterable iter X.env x = pure x := by intro _; rfl) :
    PS X (.Assign [.Name y py] (.ListComp elt [⟨tg, iter, ifs, 0⟩] scope pos) spos) (tS κ W (sAsg i m)) := by
  subst hv
  refine PS.imp (ps_setLc hc hN hy hyl hsw hi ok hg ht he hs) fun D σ H ⟨G, env, r, q⟩ => ?_
  refine lc_tr (W := W) (fun _ _ _ h => h) hf (fun _ _ _ h => h) (fun _ _ _ h => h) (hm _ _ _ ⟨G, env, r, ?_⟩)
  unfold sAsg sbnd at q
  cases w : m env with
  | none => rw [w] at q; exact q
  | some o => cases o with
    | ex x e1 =>
      rw [w] at q
      exact fun c d H' G' a b _ g => q c d σ H' G' a b g
    | ok z e1 =>
      rw [w] at q
      intro v H1 G1 r1 rv s1 f1
      by_cases hl : i < e1.length
      · dsimp only at q
        rw [if_pos hl] at q
        exact q _ H1 G1 (r1.put hl rv) (f1.put r1 hl rv)
      · dsimp only at q
        rw [if_neg hl] at q; exact q.elim
theorem s_lc {i : Nat} {y : Str} : type_of% (@s_lcm X κ W elt tg iter ifs scope own pos spos py g mi f tt te vs i y (fLc mi f tt te vs) fun _ _ _ h => h) := @s_lcm X κ W elt tg iter ifs scope own pos spos py g mi f tt te vs i y (fLc mi f tt te vs) fun _ _ _ h => h
theorem s_lcL {i j : Nat} {y : Str} : type_of% (@s_lcm X κ W elt tg iter ifs scope own pos spos py g mi f tt te vs i y (xLock j (fLc mi f tt te vs)) fun _ _ _ h => lock_tr h) := @s_lcm X κ W elt tg iter ifs scope own pos spos py g mi f tt te vs i y (xLock j (fLc mi f tt te vs)) fun _ _ _ h => lock_tr h
end
end Vs

set_option Elab.async false
set_option linter.all false
set_option maxRecDepth 100000
set_option maxHeartbeats 2000000
/-! Vx: own errors with one field (turned from the worked proof 42). -/
namespace PySem
namespace LowX_NoWord
open PySem.W PySem.Calls PyProof.Rows PySem.HandSPX
/-! ### the text of __init__ -/
def iA (p1 p2 : Pos) : Arguments := { posonlyargs := [], args := [{ arg := "self", annotation := none, pos := p1 }, { arg := "place", annotation := none, pos := p2 }], vararg := none, kwonlyargs := [], kw_defaults := [], kwarg := none, defaults := [] }
def iB (q1 q2 q3 q4 : Pos) : List Stmt := [.Assign [.Attribute (.Name "self" q1) "place" q2] (.Name "place" q3) q4]
def iS : Scope := { kind := .function, names := [(PySem.Str.ofString "self", .local), (PySem.Str.ofString "place", .local)], isGenerator := false, isCoroutine := false, more := [] }
/-- what the written part says of Low, at C, and of its __init__, at fI -/
structure LowTxt (K : Frag) (mg : Str → Option Value) (C fI : Addr) : Prop where
  gC : mg "NoWord" = some (.ref C)
  cls : ∃ nm q N bs bm sn sub ab col dd k0 k1 k2 k3 k5, K.lookup C = some (excClassObj nm q C N bs bm true sn sub ab col dd k0 k1 k2 k3 k5 "ValueError.__new__") ∧ refsVE bm = true
  sa : findIn K (.ref C) "__setattr__" = some (some (.builtin "object.__setattr__"))
  ga : findIn K (.ref C) "__getattribute__" = some (some (.builtin "BaseException.__getattribute__"))
  gg : findIn K (.ref C) "__getattr__" = some none
  noN : findIn K (.ref C) "place" = some none
  iC : findIn K (.ref C) "__init__" = some (some (.ref fI))
  tC : typeIn K (.ref fI) = some (.type "function")
  kC : keepIn K (.ref C) = true
  exC : subIn K (.ref C) (.type "BaseException") = some true
  tyC : typeIn K (.ref C) = some (.type "type")
  hdC : hasDictIn K C = true
  te : exmOne K (.ref C) (.ref C) = some true
  fn : ∃ (oc : Value) (od : Option Addr) (doc pm : Value) (an : Option Addr) (cdv ct : Value) (osl : Array (Option Value)) (p1 p2 q1 q2 q3 q4 : Pos),
    K.lookup fI = some ⟨oc, od, .func (fnOf "__init__" "NoWord.__init__" (iA p1 p2) (iB q1 q2 q3 q4) iS .none .none doc pm an cdv ct), osl⟩ ∧ codeIn K cdv "NoWord.__init__" = true
theorem one_size (v : Value) : [v].length ≤ sizeLine := by
  rw [sizeLine_eq]
  exact (by decide : 1 ≤ 16777216)
theorem kept_but {K : Frag} {h h' : Heap} {x : Addr} (X : K.In h) (hx : K.lookup x = none) (k : ∀ b o, b ≠ x → h.get? b = some o → h'.get? b = some o) : K.In h' := fun a o e =>
  k a o (fun z => by rw [z, hx] at e; cases e) (X a o e)
theorem ldC {M : Model} {s : Shared} {name : Str} {scope : Scope} {L a : Addr} {cd : Value} {m : Str → Option Value} {x : Str} {pos : Pos} {v : Value} {Q : Value → Shared → Prop} {A : Around} {E : Value → Shared → Prop} (hn : s.heap.Ns L m) (hv : m x = some v) (h : Q v s)
    (hk : scope.kind = .function := by rfl) (hl : (envOfC name scope L a cd).kindOf x = some .local := by rfl) (hd : (x == ("__debug__" : Str)) = false := by decide) :
    wpAny M A (eval (.Name x pos) (envOfC name scope L a cd)) Q E s := wpAny_Name (wpAny_loadName_local hk hl hn hv h) hd
/-- what __init__ leaves of a fresh exception at x -/
structure InitEnd (h h' : Heap) (x C dx t1 : Addr) (v : Value) : Prop where
  keep : ∀ b o, b ≠ x → h.get? b = some o → h'.get? b = some o
  obj : h'.get? x = some { cls := .ref C, dict := some dx, data := .fields #[.ref t1, .none, .none, .none, .bool false, .none] }
  dbig : h.objs.size ≤ dx
  dne : dx ≠ x
  ns : h'.Ns1 dx (fun y => if y = "place" then some v else none)
/-- a made Low -/
structure OwnMade (h h' : Heap) (e C d : Addr) (v : Value) : Prop where
  keep : ∀ b o, h.get? b = some o → h'.get? b = some o
  new : h.objs.size ≤ e
  obj : ∃ oe vs, h'.get? e = some oe ∧ oe.cls = .ref C ∧ oe.dict = some d ∧ oe.data = .fields vs ∧ vs[1]? = some .none
  dbig : h.objs.size ≤ d
  dne : d ≠ e
  ns : h'.Ns1 d (fun y => if y = "place" then some v else none)
section
variable {prog : Program} {w : World} {A : Around} {E : Value → Shared → Prop} {R : Result → Shared → Prop} {s : Shared} {K : Frag} {mg : Str → Option Value} {C fI : Addr}
theorem low_init (T : LowTxt K mg C fI) {x t0 : Addr} {v : Value} (X : K.In s.heap) (hlim : s.heap.NoLimit) (hx : s.heap.get? x = some (excO C t0)) (hnx : K.lookup x = none) (hroom : A.depth < recursionLimit)
    (hq : ∀ h' tk dx, InitEnd s.heap h' x C dx t0 v → R (.ok (.ret .none)) { s with heap := h', toks := tk }) :
    codeAny (model prog w) A (.call (.ref fI) ⟨[.ref x, v], []⟩) R s := by
  obtain ⟨oc, od, doc, pm, an, cdv, ct, osl, p1, p2, q1, q2, q3, q4, ho, hcd⟩ := T.fn
  obtain ⟨nm, q, N, bs, bm, sn, sub, ab, col, dd, k0, k1, k2, k3, k5, hC, hbm⟩ := T.cls
  have hcl : clsIn K C = some { name := nm, bases := bs, mro := .ref C :: bm, ns := N, qualname := q, hasDict := true, slotNames := sn, subclasses := sub, abstract := ab, collection := col, hasDel := false } := by unfold clsIn; rw [hC] <;> rfl
  refine Att.call_fn (binds := [("self", .ref x), ("place", v)]) X hlim ho hcd hroom (BindsTo.of_eq (by first | rfl | with_unfolding_all rfl)) (by first | rfl | decide | with_unfolding_all rfl) (fun s₁ IC => ?_) rfl rfl rfl
  obtain ⟨h₁, tk₁, rfl⟩ := IC.toInCall.same
  have k : ∀ b o, s.heap.get? b = some o → h₁.get? b = some o := IC.toInCall.keep
  have hn := IC.toInCall.ns
  have hxL : s.heap.objs.size ≠ x := Nat.ne_of_gt (Heap.lt_size hx)
  have X₁ : K.In h₁ := X.keeps k
  have hx₁ := k _ _ hx
  -- self.by = by
  show wpAny _ _ (execs _ _) _ _ _
  refine wpAny_execs_cons (plainObj_wpAny_Assign_Attribute ?_)
  refine ldC (v := v) hn (by first | rfl | with_unfolding_all rfl | kernel_rfl) (ldC (v := .ref x) hn (by first | rfl | with_unfolding_all rfl | kernel_rfl) ?_)
  refine set_plain X₁ (ox := excO C t0) (od := none) ⟨hx₁, rfl, rfl, trivial⟩ T.sa ?_
  refine exc_osa X₁ hx₁ hcl (show refsVE (.ref C :: bm) = true from hbm) rfl T.noN (fun h₃ tk₃ dx k₃ dn dne hx₃ hn₃ => ?_)
  show wpAny _ _ (execs _ _) _ _ _
  have z : s.heap.objs.size < h₁.objs.size := hn.lt
  exact wpAny_execs_nil (hq h₃ tk₃ dx ⟨fun b o hb e => k₃ b o hb (k b o e), hx₃, Nat.le_of_lt (Nat.lt_of_lt_of_le z dn), dne, hn₃⟩)
theorem low_made (T : LowTxt K mg C fI) {v : Value} (X : K.In s.heap) (hlim : s.heap.NoLimit) (hroom : A.depth + 1 < recursionLimit)
    (hq : ∀ h' tk e d, OwnMade s.heap h' e C d v → R (.ok (.ret (.ref e))) { s with heap := h', toks := tk }) :
    codeAny (model prog w) A (.call (.ref C) ⟨[v], []⟩) R s := by
  obtain ⟨nm, q, N, bs, bm, sn, sub, ab, col, dd, k0, k1, k2, k3, k5, hC, hbm⟩ := T.cls
  obtain ⟨hp, g, dr, tk, os⟩ := s
  have k : ∀ b o, hp.get? b = some o → ((hp.push (kdv_tup [v])).push (excO C hp.objs.size)).get? b = some o := fun b o e => Heap.get?_push_of_some _ (Heap.get?_push_of_some _ e)
  have hget : ((hp.push (kdv_tup [v])).push (excO C hp.objs.size)).get? (hp.objs.size + 1) = some (excO C hp.objs.size) := by heap_get
  have hnx : K.lookup (hp.objs.size + 1) = none := by
    cases e : K.lookup (hp.objs.size + 1) with
    | none => rfl
    | some o =>
      have z : hp.get? (hp.objs.size + 1) = some o := X _ _ e
      exact absurd (Nat.lt_of_succ_lt (Heap.lt_size z)) (Nat.lt_irrefl _)
  refine call_own F.excBase_ValueError (fun X => refsVE_contains X bm hbm) (X _ _ hC) (looks_findIn X T.iC) (fun self => bind_fn X self T.tC) (one_size v) ?_
  refine low_init (s := ⟨(hp.push (kdv_tup [v])).push (excO C hp.objs.size), g, dr, tk, os⟩) T (X.keeps k) (hlim.keeps k) hget hnx ?_ fun h' tk' dx ⟨k', hx, dn, dne, hns⟩ => ?_
  · show A.depth + 1 < recursionLimit
    exact hroom
  · have old : ∀ b o, hp.get? b = some o → h'.get? b = some o := fun b o e => k' b o (Nat.ne_of_lt (Nat.lt_succ_of_lt (Heap.lt_size e))) (k b o e)
    have z : hp.objs.size + 1 + 1 ≤ dx := by
      first
        | (simpa only [Heap.size_push] using dn)
        | exact dn
        | (have q := dn; rw [Heap.size_push, Heap.size_push] at q; exact q)
    exact ⟨rfl, hq h' tk' (hp.objs.size + 1) dx ⟨old, Nat.le_succ _, ⟨_, _, hx, rfl, rfl, rfl, rfl⟩, Nat.le_trans (Nat.le_trans (Nat.le_succ _) (Nat.le_succ _)) z, dne, hns⟩⟩
end
end LowX_NoWord
end PySem
namespace L2
open PySem PySem.Spec PyProof.Rows
theorem relO_low_NoWord {v : V} {v' : Value} (r : RelV v v') (f : Str) : RelO (List.lookup f [(("place" : Str), v)]) (if f = "place" then some v' else none) := by
  by_cases hw : f = "place"
  · subst hw
    rw [if_pos rfl]
    have q : List.lookup ("place" : Str) [(("place" : Str), v)] = some v := by simp [List.lookup]
    rw [q]
    exact r
  · rw [if_neg hw]
    have qw : (f == ("place" : Str)) = false := by simpa using hw
    have q2 : List.lookup f [(("place" : Str), v)] = none := by simp [List.lookup, qw]
    rw [q2]
    trivial
section
variable {X : Cx} {C fI : Addr}
/-- Low(e) -/
def tMkLow_NoWord (C : Addr) (ta : TA) : St → Hp → XK → Prop := fun σ H Q => ta σ H fun vs H1 => ∃ v, vs = [v] ∧ ∀ d, H1 d = none → Q (.ref C) (some d) (upd H1 d (.xd [(("place" : Str), v)]))
theorem pmk_low_NoWord {a : Expr} {ta : TA} {p pos : Pos} {k : Nat} (T : PySem.LowX_NoWord.LowTxt X.K X.mg C fI) (hr : Room k X.A) (ha : PA X [a] ta) (hg : Gl X "NoWord" := by rfl)
    (he : starEach (a :: []) X.env = (false, eval a X.env) :: starEach [] X.env := by rfl) (hpl : (backTo pos (starEach [] X.env)).any (·.1) = false := by rfl) :
    PMk X (.Call (.Name "NoWord" p) [a] [] pos) (tMkLow_NoWord C ta) := by
  intro pins s σ H Q I h
  refine wpAny_Call_Name_kw (ld_glob I hg T.gC ?_)
  refine PySem.W.callWith_K (h₀ := X.base) I.ok.mod.kin T.kC (thn (ha.run pos pins s σ H _ I h) fun us s1 hh => ?_) he hpl
  obtain ⟨vs, H1, I1, r1, v, ev, q1⟩ := hh
  subst ev
  refine ⟨I1.kIn, ?_⟩
  cases r1 with
  | cons rv rn =>
    rename_i v' us'
    cases rn
    show wpAny _ _ (call (.ref C) [v']) _ _ _
    have hlim := I1.nolimit
    obtain ⟨hp, g, dr, tk, os⟩ := s1
    refine wpAny_call (PySem.LowX_NoWord.low_made T I1.kIn hlim (by have := hr.dp; omega) fun h' tk' e d M => ?_)
    show MkP X pins σ Q (.ref e) ⟨h', g, dr, tk', os⟩
    obtain ⟨oe, fv, hoe, hc, hd, hdat, h1⟩ := M.obj
    have hns := M.ns
    obtain ⟨G', g1, g2⟩ := restrict h' fun b => decide (b ≠ e)
    have gk : ∀ b, b ≠ e → G'.get? b = h'.get? b := fun b hb => g1 b (decide_eq_true hb)
    have ge : G'.get? e = none := g2 e (by simp)
    have old : ∀ b o, hp.get? b = some o → G'.get? b = some o := fun b o q => (gk b (Nat.ne_of_lt (Nat.lt_of_lt_of_le (Heap.lt_size q) M.new))).trans (M.keep b o q)
    have ob : ObjOk X.prog X.w (upd H1 d (.xd [(("place" : Str), v)])) G' d (.xd [(("place" : Str), v)]) :=
      ⟨_, hns.at (fun o q => (gk d M.dne).trans q), fun f => relO_low_NoWord rv f⟩
    have J : Inv X pins σ (upd H1 d (.xd [(("place" : Str), v)])) ⟨G', g, dr, tk', os⟩ := I1.laid (t' := tk') old M.dbig ob
    refine ⟨e, oe, fv, ⟨G', g, dr, tk', os⟩, _, .ref C, some d, rfl, J, fun b o q => ?_, ge, hoe, ⟨hc, hd⟩, hdat, h1, ?_, rfl, I1.bare, raises_own T.exC T.tyC, q1 d (I1.hok.fresh M.dbig)⟩
    · by_cases hb : b = e
      · have q' : G'.get? b = some o := q
        rw [hb, ge] at q'; cases q'
      · exact (gk b hb).symm.trans q
    · rw [upd_ne (Ne.symm M.dne)]
      exact I1.hok.fresh M.new
/-- raise Low(e) -/
def tRaiseLow_NoWord (C : Addr) (W : WX) (ta : TA) : TS := fun _ σ H => tMkLow_NoWord C ta σ H fun cls d H' => W cls d σ H'
theorem ps_raiseLow_NoWord {a : Expr} {ta : TA} {W : WX} {p pos pos2 : Pos} {k : Nat} (hc : X.calm = true) (T : PySem.LowX_NoWord.LowTxt X.K X.mg C fI) (hr : Room k X.A) (tk : Takes X W) (ha : PA X [a] ta) (hg : Gl X "NoWord" := by rfl)
    (he : starEach (a :: []) X.env = (false, eval a X.env) :: starEach [] X.env := by rfl) (hpl : (backTo pos (starEach [] X.env)).any (·.1) = false := by rfl) :
    PS X (.Raise (some (.Call (.Name "NoWord" p) [a] [] pos)) none pos2) (tRaiseLow_NoWord C W ta) := ps_raise hc tk (pmk_low_NoWord T hr ha hg he hpl)
end
end L2

namespace PySem
namespace LowX_NoUse
open PySem.W PySem.Calls PyProof.Rows PySem.HandSPX
/-! ### the text of __init__ -/
def iA (p1 p2 : Pos) : Arguments := { posonlyargs := [], args := [{ arg := "self", annotation := none, pos := p1 }, { arg := "at", annotation := none, pos := p2 }], vararg := none, kwonlyargs := [], kw_defaults := [], kwarg := none, defaults := [] }
def iB (q1 q2 q3 q4 : Pos) : List Stmt := [.Assign [.Attribute (.Name "self" q1) "at" q2] (.Name "at" q3) q4]
def iS : Scope := { kind := .function, names := [(PySem.Str.ofString "self", .local), (PySem.Str.ofString "at", .local)], isGenerator := false, isCoroutine := false, more := [] }
/-- what the written part says of Low, at C, and of its __init__, at fI -/
structure LowTxt (K : Frag) (mg : Str → Option Value) (C fI : Addr) : Prop where
  gC : mg "NoUse" = some (.ref C)
  cls : ∃ nm q N bs bm sn sub ab col dd k0 k1 k2 k3 k5, K.lookup C = some (excClassObj nm q C N bs bm true sn sub ab col dd k0 k1 k2 k3 k5 "ValueError.__new__") ∧ refsVE bm = true
  sa : findIn K (.ref C) "__setattr__" = some (some (.builtin "object.__setattr__"))
  ga : findIn K (.ref C) "__getattribute__" = some (some (.builtin "BaseException.__getattribute__"))
  gg : findIn K (.ref C) "__getattr__" = some none
  noN : findIn K (.ref C) "at" = some none
  iC : findIn K (.ref C) "__init__" = some (some (.ref fI))
  tC : typeIn K (.ref fI) = some (.type "function")
  kC : keepIn K (.ref C) = true
  exC : subIn K (.ref C) (.type "BaseException") = some true
  tyC : typeIn K (.ref C) = some (.type "type")
  hdC : hasDictIn K C = true
  te : exmOne K (.ref C) (.ref C) = some true
  fn : ∃ (oc : Value) (od : Option Addr) (doc pm : Value) (an : Option Addr) (cdv ct : Value) (osl : Array (Option Value)) (p1 p2 q1 q2 q3 q4 : Pos),
    K.lookup fI = some ⟨oc, od, .func (fnOf "__init__" "NoUse.__init__" (iA p1 p2) (iB q1 q2 q3 q4) iS .none .none doc pm an cdv ct), osl⟩ ∧ codeIn K cdv "NoUse.__init__" = true
theorem one_size (v : Value) : [v].length ≤ sizeLine := by
  rw [sizeLine_eq]
  exact (by decide : 1 ≤ 16777216)
theorem kept_but {K : Frag} {h h' : Heap} {x : Addr} (X : K.In h) (hx : K.lookup x = none) (k : ∀ b o, b ≠ x → h.get? b = some o → h'.get? b = some o) : K.In h' := fun a o e =>
  k a o (fun z => by rw [z, hx] at e; cases e) (X a o e)
theorem ldC {M : Model} {s : Shared} {name : Str} {scope : Scope} {L a : Addr} {cd : Value} {m : Str → Option Value} {x : Str} {pos : Pos} {v : Value} {Q : Value → Shared → Prop} {A : Around} {E : Value → Shared → Prop} (hn : s.heap.Ns L m) (hv : m x = some v) (h : Q v s)
    (hk : scope.kind = .function := by rfl) (hl : (envOfC name scope L a cd).kindOf x = some .local := by rfl) (hd : (x == ("__debug__" : Str)) = false := by decide) :
    wpAny M A (eval (.Name x pos) (envOfC name scope L a cd)) Q E s := wpAny_Name (wpAny_loadName_local hk hl hn hv h) hd
/-- what __init__ leaves of a fresh exception at x -/
structure InitEnd (h h' : Heap) (x C dx t1 : Addr) (v : Value) : Prop where
  keep : ∀ b o, b ≠ x → h.get? b = some o → h'.get? b = some o
  obj : h'.get? x = some { cls := .ref C, dict := some dx, data := .fields #[.ref t1, .none, .none, .none, .bool false, .none] }
  dbig : h.objs.size ≤ dx
  dne : dx ≠ x
  ns : h'.Ns1 dx (fun y => if y = "at" then some v else none)
/-- a made Low -/
structure OwnMade (h h' : Heap) (e C d : Addr) (v : Value) : Prop where
  keep : ∀ b o, h.get? b = some o → h'.get? b = some o
  new : h.objs.size ≤ e
  obj : ∃ oe vs, h'.get? e = some oe ∧ oe.cls = .ref C ∧ oe.dict = some d ∧ oe.data = .fields vs ∧ vs[1]? = some .none
  dbig : h.objs.size ≤ d
  dne : d ≠ e
  ns : h'.Ns1 d (fun y => if y = "at" then some v else none)
section
variable {prog : Program} {w : World} {A : Around} {E : Value → Shared → Prop} {R : Result → Shared → Prop} {s : Shared} {K : Frag} {mg : Str → Option Value} {C fI : Addr}
theorem low_init (T : LowTxt K mg C fI) {x t0 : Addr} {v : Value} (X : K.In s.heap) (hlim : s.heap.NoLimit) (hx : s.heap.get? x = some (excO C t0)) (hnx : K.lookup x = none) (hroom : A.depth < recursionLimit)
    (hq : ∀ h' tk dx, InitEnd s.heap h' x C dx t0 v → R (.ok (.ret .none)) { s with heap := h', toks := tk }) :
    codeAny (model prog w) A (.call (.ref fI) ⟨[.ref x, v], []⟩) R s := by
  obtain ⟨oc, od, doc, pm, an, cdv, ct, osl, p1, p2, q1, q2, q3, q4, ho, hcd⟩ := T.fn
  obtain ⟨nm, q, N, bs, bm, sn, sub, ab, col, dd, k0, k1, k2, k3, k5, hC, hbm⟩ := T.cls
  have hcl : clsIn K C = some { name := nm, bases := bs, mro := .ref C :: bm, ns := N, qualname := q, hasDict := true, slotNames := sn, subclasses := sub, abstract := ab, collection := col, hasDel := false } := by unfold clsIn; rw [hC] <;> rfl
  refine Att.call_fn (binds := [("self", .ref x), ("at", v)]) X hlim ho hcd hroom (BindsTo.of_eq (by first | rfl | with_unfolding_all rfl)) (by first | rfl | decide | with_unfolding_all rfl) (fun s₁ IC => ?_) rfl rfl rfl
  obtain ⟨h₁, tk₁, rfl⟩ := IC.toInCall.same
  have k : ∀ b o, s.heap.get? b = some o → h₁.get? b = some o := IC.toInCall.keep
  have hn := IC.toInCall.ns
  have hxL : s.heap.objs.size ≠ x := Nat.ne_of_gt (Heap.lt_size hx)
  have X₁ : K.In h₁ := X.keeps k
  have hx₁ := k _ _ hx
  -- self.by = by
  show wpAny _ _ (execs _ _) _ _ _
  refine wpAny_execs_cons (plainObj_wpAny_Assign_Attribute ?_)
  refine ldC (v := v) hn (by first | rfl | with_unfolding_all rfl | kernel_rfl) (ldC (v := .ref x) hn (by first | rfl | with_unfolding_all rfl | kernel_rfl) ?_)
  refine set_plain X₁ (ox := excO C t0) (od := none) ⟨hx₁, rfl, rfl, trivial⟩ T.sa ?_
  refine exc_osa X₁ hx₁ hcl (show refsVE (.ref C :: bm) = true from hbm) rfl T.noN (fun h₃ tk₃ dx k₃ dn dne hx₃ hn₃ => ?_)
  show wpAny _ _ (execs _ _) _ _ _
  have z : s.heap.objs.size < h₁.objs.size := hn.lt
  exact wpAny_execs_nil (hq h₃ tk₃ dx ⟨fun b o hb e => k₃ b o hb (k b o e), hx₃, Nat.le_of_lt (Nat.lt_of_lt_of_le z dn), dne, hn₃⟩)
theorem low_made (T : LowTxt K mg C fI) {v : Value} (X : K.In s.heap) (hlim : s.heap.NoLimit) (hroom : A.depth + 1 < recursionLimit)
    (hq : ∀ h' tk e d, OwnMade s.heap h' e C d v → R (.ok (.ret (.ref e))) { s with heap := h', toks := tk }) :
    codeAny (model prog w) A (.call (.ref C) ⟨[v], []⟩) R s := by
  obtain ⟨nm, q, N, bs, bm, sn, sub, ab, col, dd, k0, k1, k2, k3, k5, hC, hbm⟩ := T.cls
  obtain ⟨hp, g, dr, tk, os⟩ := s
  have k : ∀ b o, hp.get? b = some o → ((hp.push (kdv_tup [v])).push (excO C hp.objs.size)).get? b = some o := fun b o e => Heap.get?_push_of_some _ (Heap.get?_push_of_some _ e)
  have hget : ((hp.push (kdv_tup [v])).push (excO C hp.objs.size)).get? (hp.objs.size + 1) = some (excO C hp.objs.size) := by heap_get
  have hnx : K.lookup (hp.objs.size + 1) = none := by
    cases e : K.lookup (hp.objs.size + 1) with
    | none => rfl
    | some o =>
      have z : hp.get? (hp.objs.size + 1) = some o := X _ _ e
      exact absurd (Nat.lt_of_succ_lt (Heap.lt_size z)) (Nat.lt_irrefl _)
  refine call_own F.excBase_ValueError (fun X => refsVE_contains X bm hbm) (X _ _ hC) (looks_findIn X T.iC) (fun self => bind_fn X self T.tC) (one_size v) ?_
  refine low_init (s := ⟨(hp.push (kdv_tup [v])).push (excO C hp.objs.size), g, dr, tk, os⟩) T (X.keeps k) (hlim.keeps k) hget hnx ?_ fun h' tk' dx ⟨k', hx, dn, dne, hns⟩ => ?_
  · show A.depth + 1 < recursionLimit
    exact hroom
  · have old : ∀ b o, hp.get? b = some o → h'.get? b = some o := fun b o e => k' b o (Nat.ne_of_lt (Nat.lt_succ_of_lt (Heap.lt_size e))) (k b o e)
    have z : hp.objs.size + 1 + 1 ≤ dx := by
      first
        | (simpa only [Heap.size_push] using dn)
        | exact dn
        | (have q := dn; rw [Heap.size_push, Heap.size_push] at q; exact q)
    exact ⟨rfl, hq h' tk' (hp.objs.size + 1) dx ⟨old, Nat.le_succ _, ⟨_, _, hx, rfl, rfl, rfl, rfl⟩, Nat.le_trans (Nat.le_trans (Nat.le_succ _) (Nat.le_succ _)) z, dne, hns⟩⟩
end
end LowX_NoUse
end PySem
namespace L2
open PySem PySem.Spec PyProof.Rows
theorem relO_low_NoUse {v : V} {v' : Value} (r : RelV v v') (f : Str) : RelO (List.lookup f [(("at" : Str), v)]) (if f = "at" then some v' else none) := by
  by_cases hw : f = "at"
  · subst hw
    rw [if_pos rfl]
    have q : List.lookup ("at" : Str) [(("at" : Str), v)] = some v := by simp [List.lookup]
    rw [q]
    exact r
  · rw [if_neg hw]
    have qw : (f == ("at" : Str)) = false := by simpa using hw
    have q2 : List.lookup f [(("at" : Str), v)] = none := by simp [List.lookup, qw]
    rw [q2]
    trivial
section
variable {X : Cx} {C fI : Addr}
/-- Low(e) -/
def tMkLow_NoUse (C : Addr) (ta : TA) : St → Hp → XK → Prop := fun σ H Q => ta σ H fun vs H1 => ∃ v, vs = [v] ∧ ∀ d, H1 d = none → Q (.ref C) (some d) (upd H1 d (.xd [(("at" : Str), v)]))
theorem pmk_low_NoUse {a : Expr} {ta : TA} {p pos : Pos} {k : Nat} (T : PySem.LowX_NoUse.LowTxt X.K X.mg C fI) (hr : Room k X.A) (ha : PA X [a] ta) (hg : Gl X "NoUse" := by rfl)
    (he : starEach (a :: []) X.env = (false, eval a X.env) :: starEach [] X.env := by rfl) (hpl : (backTo pos (starEach [] X.env)).any (·.1) = false := by rfl) :
    PMk X (.Call (.Name "NoUse" p) [a] [] pos) (tMkLow_NoUse C ta) := by
  intro pins s σ H Q I h
  refine wpAny_Call_Name_kw (ld_glob I hg T.gC ?_)
  refine PySem.W.callWith_K (h₀ := X.base) I.ok.mod.kin T.kC (thn (ha.run pos pins s σ H _ I h) fun us s1 hh => ?_) he hpl
  obtain ⟨vs, H1, I1, r1, v, ev, q1⟩ := hh
  subst ev
  refine ⟨I1.kIn, ?_⟩
  cases r1 with
  | cons rv rn =>
    rename_i v' us'
    cases rn
    show wpAny _ _ (call (.ref C) [v']) _ _ _
    have hlim := I1.nolimit
    obtain ⟨hp, g, dr, tk, os⟩ := s1
    refine wpAny_call (PySem.LowX_NoUse.low_made T I1.kIn hlim (by have := hr.dp; omega) fun h' tk' e d M => ?_)
    show MkP X pins σ Q (.ref e) ⟨h', g, dr, tk', os⟩
    obtain ⟨oe, fv, hoe, hc, hd, hdat, h1⟩ := M.obj
    have hns := M.ns
    obtain ⟨G', g1, g2⟩ := restrict h' fun b => decide (b ≠ e)
    have gk : ∀ b, b ≠ e → G'.get? b = h'.get? b := fun b hb => g1 b (decide_eq_true hb)
    have ge : G'.get? e = none := g2 e (by simp)
    have old : ∀ b o, hp.get? b = some o → G'.get? b = some o := fun b o q => (gk b (Nat.ne_of_lt (Nat.lt_of_lt_of_le (Heap.lt_size q) M.new))).trans (M.keep b o q)
    have ob : ObjOk X.prog X.w (upd H1 d (.xd [(("at" : Str), v)])) G' d (.xd [(("at" : Str), v)]) :=
      ⟨_, hns.at (fun o q => (gk d M.dne).trans q), fun f => relO_low_NoUse rv f⟩
    have J : Inv X pins σ (upd H1 d (.xd [(("at" : Str), v)])) ⟨G', g, dr, tk', os⟩ := I1.laid (t' := tk') old M.dbig ob
    refine ⟨e, oe, fv, ⟨G', g, dr, tk', os⟩, _, .ref C, some d, rfl, J, fun b o q => ?_, ge, hoe, ⟨hc, hd⟩, hdat, h1, ?_, rfl, I1.bare, raises_own T.exC T.tyC, q1 d (I1.hok.fresh M.dbig)⟩
    · by_cases hb : b = e
      · have q' : G'.get? b = some o := q
        rw [hb, ge] at q'; cases q'
      · exact (gk b hb).symm.trans q
    · rw [upd_ne (Ne.symm M.dne)]
      exact I1.hok.fresh M.new
/-- raise Low(e) -/
def tRaiseLow_NoUse (C : Addr) (W : WX) (ta : TA) : TS := fun _ σ H => tMkLow_NoUse C ta σ H fun cls d H' => W cls d σ H'
theorem ps_raiseLow_NoUse {a : Expr} {ta : TA} {W : WX} {p pos pos2 : Pos} {k : Nat} (hc : X.calm = true) (T : PySem.LowX_NoUse.LowTxt X.K X.mg C fI) (hr : Room k X.A) (tk : Takes X W) (ha : PA X [a] ta) (hg : Gl X "NoUse" := by rfl)
    (he : starEach (a :: []) X.env = (false, eval a X.env) :: starEach [] X.env := by rfl) (hpl : (backTo pos (starEach [] X.env)).any (·.1) = false := by rfl) :
    PS X (.Raise (some (.Call (.Name "NoUse" p) [a] [] pos)) none pos2) (tRaiseLow_NoUse C W ta) := ps_raise hc tk (pmk_low_NoUse T hr ha hg he hpl)
end
end L2

namespace PySem
namespace LowX_NotTurned
open PySem.W PySem.Calls PyProof.Rows PySem.HandSPX
/-! ### the text of __init__ -/
def iA (p1 p2 : Pos) : Arguments := { posonlyargs := [], args := [{ arg := "self", annotation := none, pos := p1 }, { arg := "number", annotation := none, pos := p2 }], vararg := none, kwonlyargs := [], kw_defaults := [], kwarg := none, defaults := [] }
def iB (q1 q2 q3 q4 : Pos) : List Stmt := [.Assign [.Attribute (.Name "self" q1) "number" q2] (.Name "number" q3) q4]
def iS : Scope := { kind := .function, names := [(PySem.Str.ofString "self", .local), (PySem.Str.ofString "number", .local)], isGenerator := false, isCoroutine := false, more := [] }
/-- what the written part says of Low, at C, and of its __init__, at fI -/
structure LowTxt (K : Frag) (mg : Str → Option Value) (C fI : Addr) : Prop where
  gC : mg "NotTurned" = some (.ref C)
  cls : ∃ nm q N bs bm sn sub ab col dd k0 k1 k2 k3 k5, K.lookup C = some (excClassObj nm q C N bs bm true sn sub ab col dd k0 k1 k2 k3 k5 "ValueError.__new__") ∧ refsVE bm = true
  sa : findIn K (.ref C) "__setattr__" = some (some (.builtin "object.__setattr__"))
  ga : findIn K (.ref C) "__getattribute__" = some (some (.builtin "BaseException.__getattribute__"))
  gg : findIn K (.ref C) "__getattr__" = some none
  noN : findIn K (.ref C) "number" = some none
  iC : findIn K (.ref C) "__init__" = some (some (.ref fI))
  tC : typeIn K (.ref fI) = some (.type "function")
  kC : keepIn K (.ref C) = true
  exC : subIn K (.ref C) (.type "BaseException") = some true
  tyC : typeIn K (.ref C) = some (.type "type")
  hdC : hasDictIn K C = true
  te : exmOne K (.ref C) (.ref C) = some true
  fn : ∃ (oc : Value) (od : Option Addr) (doc pm : Value) (an : Option Addr) (cdv ct : Value) (osl : Array (Option Value)) (p1 p2 q1 q2 q3 q4 : Pos),
    K.lookup fI = some ⟨oc, od, .func (fnOf "__init__" "NotTurned.__init__" (iA p1 p2) (iB q1 q2 q3 q4) iS .none .none doc pm an cdv ct), osl⟩ ∧ codeIn K cdv "NotTurned.__init__" = true
theorem one_size (v : Value) : [v].length ≤ sizeLine := by
  rw [sizeLine_eq]
  exact (by decide : 1 ≤ 16777216)
theorem kept_but {K : Frag} {h h' : Heap} {x : Addr} (X : K.In h) (hx : K.lookup x = none) (k : ∀ b o, b ≠ x → h.get? b = some o → h'.get? b = some o) : K.In h' := fun a o e =>
  k a o (fun z => by rw [z, hx] at e; cases e) (X a o e)
theorem ldC {M : Model} {s : Shared} {name : Str} {scope : Scope} {L a : Addr} {cd : Value} {m : Str → Option Value} {x : Str} {pos : Pos} {v : Value} {Q : Value → Shared → Prop} {A : Around} {E : Value → Shared → Prop} (hn : s.heap.Ns L m) (hv : m x = some v) (h : Q v s)
    (hk : scope.kind = .function := by rfl) (hl : (envOfC name scope L a cd).kindOf x = some .local := by rfl) (hd : (x == ("__debug__" : Str)) = false := by decide) :
    wpAny M A (eval (.Name x pos) (envOfC name scope L a cd)) Q E s := wpAny_Name (wpAny_loadName_local hk hl hn hv h) hd
/-- what __init__ leaves of a fresh exception at x -/
structure InitEnd (h h' : Heap) (x C dx t1 : Addr) (v : Value) : Prop where
  keep : ∀ b o, b ≠ x → h.get? b = some o → h'.get? b = some o
  obj : h'.get? x = some { cls := .ref C, dict := some dx, data := .fields #[.ref t1, .none, .none, .none, .bool false, .none] }
  dbig : h.objs.size ≤ dx
  dne : dx ≠ x
  ns : h'.Ns1 dx (fun y => if y = "number" then some v else none)
/-- a made Low -/
structure OwnMade (h h' : Heap) (e C d : Addr) (v : Value) : Prop where
  keep : ∀ b o, h.get? b = some o → h'.get? b = some o
  new : h.objs.size ≤ e
  obj : ∃ oe vs, h'.get? e = some oe ∧ oe.cls = .ref C ∧ oe.dict = some d ∧ oe.data = .fields vs ∧ vs[1]? = some .none
  dbig : h.objs.size ≤ d
  dne : d ≠ e
  ns : h'.Ns1 d (fun y => if y = "number" then some v else none)
section
variable {prog : Program} {w : World} {A : Around} {E : Value → Shared → Prop} {R : Result → Shared → Prop} {s : Shared} {K : Frag} {mg : Str → Option Value} {C fI : Addr}
theorem low_init (T : LowTxt K mg C fI) {x t0 : Addr} {v : Value} (X : K.In s.heap) (hlim : s.heap.NoLimit) (hx : s.heap.get? x = some (excO C t0)) (hnx : K.lookup x = none) (hroom : A.depth < recursionLimit)
    (hq : ∀ h' tk dx, InitEnd s.heap h' x C dx t0 v → R (.ok (.ret .none)) { s with heap := h', toks := tk }) :
    codeAny (model prog w) A (.call (.ref fI) ⟨[.ref x, v], []⟩) R s := by
  obtain ⟨oc, od, doc, pm, an, cdv, ct, osl, p1, p2, q1, q2, q3, q4, ho, hcd⟩ := T.fn
  obtain ⟨nm, q, N, bs, bm, sn, sub, ab, col, dd, k0, k1, k2, k3, k5, hC, hbm⟩ := T.cls
  have hcl : clsIn K C = some { name := nm, bases := bs, mro := .ref C :: bm, ns := N, qualname := q, hasDict := true, slotNames := sn, subclasses := sub, abstract := ab, collection := col, hasDel := false } := by unfold clsIn; rw [hC] <;> rfl
  refine Att.call_fn (binds := [("self", .ref x), ("number", v)]) X hlim ho hcd hroom (BindsTo.of_eq (by first | rfl | with_unfolding_all rfl)) (by first | rfl | decide | with_unfolding_all rfl) (fun s₁ IC => ?_) rfl rfl rfl
  obtain ⟨h₁, tk₁, rfl⟩ := IC.toInCall.same
  have k : ∀ b o, s.heap.get? b = some o → h₁.get? b = some o := IC.toInCall.keep
  have hn := IC.toInCall.ns
  have hxL : s.heap.objs.size ≠ x := Nat.ne_of_gt (Heap.lt_size hx)
  have X₁ : K.In h₁ := X.keeps k
  have hx₁ := k _ _ hx
  -- self.by = by
  show wpAny _ _ (execs _ _) _ _ _
  refine wpAny_execs_cons (plainObj_wpAny_Assign_Attribute ?_)
  refine ldC (v := v) hn (by first | rfl | with_unfolding_all rfl | kernel_rfl) (ldC (v := .ref x) hn (by first | rfl | with_unfolding_all rfl | kernel_rfl) ?_)
  refine set_plain X₁ (ox := excO C t0) (od := none) ⟨hx₁, rfl, rfl, trivial⟩ T.sa ?_
  refine exc_osa X₁ hx₁ hcl (show refsVE (.ref C :: bm) = true from hbm) rfl T.noN (fun h₃ tk₃ dx k₃ dn dne hx₃ hn₃ => ?_)
  show wpAny _ _ (execs _ _) _ _ _
  have z : s.heap.objs.size < h₁.objs.size := hn.lt
  exact wpAny_execs_nil (hq h₃ tk₃ dx ⟨fun b o hb e => k₃ b o hb (k b o e), hx₃, Nat.le_of_lt (Nat.lt_of_lt_of_le z dn), dne, hn₃⟩)
theorem low_made (T : LowTxt K mg C fI) {v : Value} (X : K.In s.heap) (hlim : s.heap.NoLimit) (hroom : A.depth + 1 < recursionLimit)
    (hq : ∀ h' tk e d, OwnMade s.heap h' e C d v → R (.ok (.ret (.ref e))) { s with heap := h', toks := tk }) :
    codeAny (model prog w) A (.call (.ref C) ⟨[v], []⟩) R s := by
  obtain ⟨nm, q, N, bs, bm, sn, sub, ab, col, dd, k0, k1, k2, k3, k5, hC, hbm⟩ := T.cls
  obtain ⟨hp, g, dr, tk, os⟩ := s
  have k : ∀ b o, hp.get? b = some o → ((hp.push (kdv_tup [v])).push (excO C hp.objs.size)).get? b = some o := fun b o e => Heap.get?_push_of_some _ (Heap.get?_push_of_some _ e)
  have hget : ((hp.push (kdv_tup [v])).push (excO C hp.objs.size)).get? (hp.objs.size + 1) = some (excO C hp.objs.size) := by heap_get
  have hnx : K.lookup (hp.objs.size + 1) = none := by
    cases e : K.lookup (hp.objs.size + 1) with
    | none => rfl
    | some o =>
      have z : hp.get? (hp.objs.size + 1) = some o := X _ _ e
      exact absurd (Nat.lt_of_succ_lt (Heap.lt_size z)) (Nat.lt_irrefl _)
  refine call_own F.excBase_ValueError (fun X => refsVE_contains X bm hbm) (X _ _ hC) (looks_findIn X T.iC) (fun self => bind_fn X self T.tC) (one_size v) ?_
  refine low_init (s := ⟨(hp.push (kdv_tup [v])).push (excO C hp.objs.size), g, dr, tk, os⟩) T (X.keeps k) (hlim.keeps k) hget hnx ?_ fun h' tk' dx ⟨k', hx, dn, dne, hns⟩ => ?_
  · show A.depth + 1 < recursionLimit
    exact hroom
  · have old : ∀ b o, hp.get? b = some o → h'.get? b = some o := fun b o e => k' b o (Nat.ne_of_lt (Nat.lt_succ_of_lt (Heap.lt_size e))) (k b o e)
    have z : hp.objs.size + 1 + 1 ≤ dx := by
      first
        | (simpa only [Heap.size_push] using dn)
        | exact dn
        | (have q := dn; rw [Heap.size_push, Heap.size_push] at q; exact q)
    exact ⟨rfl, hq h' tk' (hp.objs.size + 1) dx ⟨old, Nat.le_succ _, ⟨_, _, hx, rfl, rfl, rfl, rfl⟩, Nat.le_trans (Nat.le_trans (Nat.le_succ _) (Nat.le_succ _)) z, dne, hns⟩⟩
end
end LowX_NotTurned
end PySem
namespace L2
open PySem PySem.Spec PyProof.Rows
theorem relO_low_NotTurned {v : V} {v' : Value} (r : RelV v v') (f : Str) : RelO (List.lookup f [(("number" : Str), v)]) (if f = "number" then some v' else none) := by
  by_cases hw : f = "number"
  · subst hw
    rw [if_pos rfl]
    have q : List.lookup ("number" : Str) [(("number" : Str), v)] = some v := by simp [List.lookup]
    rw [q]
    exact r
  · rw [if_neg hw]
    have qw : (f == ("number" : Str)) = false := by simpa using hw
    have q2 : List.lookup f [(("number" : Str), v)] = none := by simp [List.lookup, qw]
    rw [q2]
    trivial
section
variable {X : Cx} {C fI : Addr}
/-- Low(e) -/
def tMkLow_NotTurned (C : Addr) (ta : TA) : St → Hp → XK → Prop := fun σ H Q => ta σ H fun vs H1 => ∃ v, vs = [v] ∧ ∀ d, H1 d = none → Q (.ref C) (some d) (upd H1 d (.xd [(("number" : Str), v)]))
theorem pmk_low_NotTurned {a : Expr} {ta : TA} {p pos : Pos} {k : Nat} (T : PySem.LowX_NotTurned.LowTxt X.K X.mg C fI) (hr : Room k X.A) (ha : PA X [a] ta) (hg : Gl X "NotTurned" := by rfl)
    (he : starEach (a :: []) X.env = (false, eval a X.env) :: starEach [] X.env := by rfl) (hpl : (backTo pos (starEach [] X.env)).any (·.1) = false := by rfl) :
    PMk X (.Call (.Name "NotTurned" p) [a] [] pos) (tMkLow_NotTurned C ta) := by
  intro pins s σ H Q I h
  refine wpAny_Call_Name_kw (ld_glob I hg T.gC ?_)
  refine PySem.W.callWith_K (h₀ := X.base) I.ok.mod.kin T.kC (thn (ha.run pos pins s σ H _ I h) fun us s1 hh => ?_) he hpl
  obtain ⟨vs, H1, I1, r1, v, ev, q1⟩ := hh
  subst ev
  refine ⟨I1.kIn, ?_⟩
  cases r1 with
  | cons rv rn =>
    rename_i v' us'
    cases rn
    show wpAny _ _ (call (.ref C) [v']) _ _ _
    have hlim := I1.nolimit
    obtain ⟨hp, g, dr, tk, os⟩ := s1
    refine wpAny_call (PySem.LowX_NotTurned.low_made T I1.kIn hlim (by have := hr.dp; omega) fun h' tk' e d M => ?_)
    show MkP X pins σ Q (.ref e) ⟨h', g, dr, tk', os⟩
    obtain ⟨oe, fv, hoe, hc, hd, hdat, h1⟩ := M.obj
    have hns := M.ns
    obtain ⟨G', g1, g2⟩ := restrict h' fun b => decide (b ≠ e)
    have gk : ∀ b, b ≠ e → G'.get? b = h'.get? b := fun b hb => g1 b (decide_eq_true hb)
    have ge : G'.get? e = none := g2 e (by simp)
    have old : ∀ b o, hp.get? b = some o → G'.get? b = some o := fun b o q => (gk b (Nat.ne_of_lt (Nat.lt_of_lt_of_le (Heap.lt_size q) M.new))).trans (M.keep b o q)
    have ob : ObjOk X.prog X.w (upd H1 d (.xd [(("number" : Str), v)])) G' d (.xd [(("number" : Str), v)]) :=
      ⟨_, hns.at (fun o q => (gk d M.dne).trans q), fun f => relO_low_NotTurned rv f⟩
    have J : Inv X pins σ (upd H1 d (.xd [(("number" : Str), v)])) ⟨G', g, dr, tk', os⟩ := I1.laid (t' := tk') old M.dbig ob
    refine ⟨e, oe, fv, ⟨G', g, dr, tk', os⟩, _, .ref C, some d, rfl, J, fun b o q => ?_, ge, hoe, ⟨hc, hd⟩, hdat, h1, ?_, rfl, I1.bare, raises_own T.exC T.tyC, q1 d (I1.hok.fresh M.dbig)⟩
    · by_cases hb : b = e
      · have q' : G'.get? b = some o := q
        rw [hb, ge] at q'; cases q'
      · exact (gk b hb).symm.trans q
    · rw [upd_ne (Ne.symm M.dne)]
      exact I1.hok.fresh M.new
/-- raise Low(e) -/
def tRaiseLow_NotTurned (C : Addr) (W : WX) (ta : TA) : TS := fun _ σ H => tMkLow_NotTurned C ta σ H fun cls d H' => W cls d σ H'
theorem ps_raiseLow_NotTurned {a : Expr} {ta : TA} {W : WX} {p pos pos2 : Pos} {k : Nat} (hc : X.calm = true) (T : PySem.LowX_NotTurned.LowTxt X.K X.mg C fI) (hr : Room k X.A) (tk : Takes X W) (ha : PA X [a] ta) (hg : Gl X "NotTurned" := by rfl)
    (he : starEach (a :: []) X.env = (false, eval a X.env) :: starEach [] X.env := by rfl) (hpl : (backTo pos (starEach [] X.env)).any (·.1) = false := by rfl) :
    PS X (.Raise (some (.Call (.Name "NotTurned" p) [a] [] pos)) none pos2) (tRaiseLow_NotTurned C W ta) := ps_raise hc tk (pmk_low_NotTurned T hr ha hg he hpl)
end
end L2

set_option Elab.async false
set_option linter.all false
set_option maxRecDepth 100000
set_option maxHeartbeats 2000000
/-! Vs3: errors of the program's own. -/
namespace Vs
open PySem L2
open Classical in
/-- what does not hang on where the caught error stands -/
noncomputable def allEq {α : Type} (F : Xo → Option α) : Option α := if ∀ o, F o = F ⟨0, .none, none⟩ then F ⟨0, .none, none⟩ else none
theorem allEq_of {α : Type} {F : Xo → Option α} {a : α} (h : allEq F = some a) (o : Xo) : F o = some a := by
  unfold allEq at h
  split at h
  · rename_i q
    rw [q o, h]
  · cases h
theorem allEq_const {α : Type} {a : Option α} : allEq (fun _ => a) = a := by
  unfold allEq
  rw [if_pos fun _ => rfl]
def fRaise0 (c : Nat) : Ss := fun e => some (.ex ⟨c, none⟩ e)
def fRaise1 (c : Nat) (m : Sm D) : Ss := sbnd m fun d e => match d with
  | .int z => some (.ex ⟨c, some z⟩ e)
  | _ => none
section
variable {X : Cx} {κ : Kx} {W : WX}
abbrev veB : List Value := [.type "ValueError", .type "Exception", .type "BaseException", .type "object"]
theorem s_raise0 {c : Nat} {x m : Str} {j : Nat} {p p2 pos pos2 : Pos} (hc : X.calm = true) (hK : X.K = κ.K) (hf : κ.xf c = none) (tk : Takes X W) (gC : X.mg x = some (.ref (κ.xc c))) (q : PySem.W.excIn κ.K (κ.xc c) veB "ValueError.__new__" = true) (kC : PySem.W.keepIn κ.K (.ref (κ.xc c)) = true)
    (bP : PySem.W.subIn κ.K (.ref (κ.xc c)) (.type "BaseException") = some true) (tP : PySem.W.typeIn κ.K (.ref (κ.xc c)) = some (.type "type")) (hg : Gl X x) (hdb : (x == ("__debug__" : Str)) = false := by decide) :
    PS X (.Raise (some (.Call (.Name x p) [.Constant (.str m) j p2] [] pos)) none pos2) (tS κ W (fRaise0 c)) := by
  rw [← hK] at q kC bP tP
  refine PS.imp (ps_raise hc tk (pmk_own PySem.F.excBase_ValueError q gC kC (raises_own bP tP) hg hdb)) fun D σ H ⟨G, env, r, h⟩ => ?_
  exact h _ none σ H G r ⟨rfl, by rw [hf]⟩ Fr.refl
theorem raise1_tr {c : Nat} {f : Str} {m : Sm D} {D0 : Ends} {σ : L2.St} {H : Hp} (hf : κ.xf c = some f) (h : tS κ W (fRaise1 c m) D0 σ H) :
    (tCons (tX κ W (RB κ) m) tNil) σ H fun vs H1 => ∃ v, vs = [v] ∧ ∀ d, H1 d = none → W (.ref (κ.xc c)) (some d) σ (upd H1 d (.xd [(f, v)])) := by
  obtain ⟨G, env, r, q⟩ := h
  refine sbind_post r q fun d e1 v H1 G1 _ r1 rv s1 f1 q1 => ?_
  cases d with
  | int z =>
    refine ⟨v, rfl, fun b hb => ?_⟩
    have st := new_sh (o := .xd [(f, v)]) r1 hb
    refine q1 _ _ σ _ _ st.rep ⟨rfl, ?_⟩ st.fr
    rw [hf]
    exact ⟨b, rfl, by rw [upd_same, RBq.int rv]⟩
  | _ => exact q1.elim
theorem s_raise_NoWord {c : Nat} {fI : Addr} {a : Expr} {m : Sm D} {p pos pos2 : Pos} {k : Nat} (hc : X.calm = true) (hK : X.K = κ.K) (hf : κ.xf c = some "place") (T : PySem.LowX_NoWord.LowTxt κ.K X.mg (κ.xc c) fI) (hr : Room k X.A) (tk : Takes X W) (he : PE X a (tX κ W (RB κ) m)) (hg : Gl X "NoWord" := by rfl)
    (hs : starEach (a :: []) X.env = (false, eval a X.env) :: starEach [] X.env := by rfl) (hpl : (backTo pos (starEach [] X.env)).any (·.1) = false := by rfl) : PS X (.Raise (some (.Call (.Name "NoWord" p) [a] [] pos)) none pos2) (tS κ W (fRaise1 c m)) := by
  rw [← hK] at T
  exact PS.imp (ps_raiseLow_NoWord hc T hr tk (pa_cons he pa_nil hs) hg hs hpl) fun D σ H h => raise1_tr hf h
theorem s_raise_NoUse {c : Nat} {fI : Addr} {a : Expr} {m : Sm D} {p pos pos2 : Pos} {k : Nat} (hc : X.calm = true) (hK : X.K = κ.K) (hf : κ.xf c = some "at") (T : PySem.LowX_NoUse.LowTxt κ.K X.mg (κ.xc c) fI) (hr : Room k X.A) (tk : Takes X W) (he : PE X a (tX κ W (RB κ) m)) (hg : Gl X "NoUse" := by rfl)
    (hs : starEach (a :: []) X.env = (false, eval a X.env) :: starEach [] X.env := by rfl) (hpl : (backTo pos (starEach [] X.env)).any (·.1) = false := by rfl) : PS X (.Raise (some (.Call (.Name "NoUse" p) [a] [] pos)) none pos2) (tS κ W (fRaise1 c m)) := by
  rw [← hK] at T
  exact PS.imp (ps_raiseLow_NoUse hc T hr tk (pa_cons he pa_nil hs) hg hs hpl) fun D σ H h => raise1_tr hf h
theorem s_raise_NotTurned {c : Nat} {fI : Addr} {a : Expr} {m : Sm D} {p pos pos2 : Pos} {k : Nat} (hc : X.calm = true) (hK : X.K = κ.K) (hf : κ.xf c = some "number") (T : PySem.LowX_NotTurned.LowTxt κ.K X.mg (κ.xc c) fI) (hr : Room k X.A) (tk : Takes X W) (he : PE X a (tX κ W (RB κ) m)) (hg : Gl X "NotTurned" := by rfl)
    (hs : starEach (a :: []) X.env = (false, eval a X.env) :: starEach [] X.env := by rfl) (hpl : (backTo pos (starEach [] X.env)).any (·.1) = false := by rfl) : PS X (.Raise (some (.Call (.Name "NotTurned" p) [a] [] pos)) none pos2) (tS κ W (fRaise1 c m)) := by
  rw [← hK] at T
  exact PS.imp (ps_raiseLow_NotTurned hc T hr tk (pa_cons he pa_nil hs) hg hs hpl) fun D σ H h => raise1_tr hf h
end
/-! ### try -/
def aftr (i : Nat) : Option SO → Option SO
  | some (.nx e) => some (.nx (e.set i .un))
  | some (.bk e) => some (.bk (e.set i .un))
  | some (.ct e) => some (.ct (e.set i .un))
  | some (.rt r) => some (.rt r)
  | _ => none
def noX : Option SO → Option SO
  | some (.ex _ _) => none
  | o => o
/-- except X as n -/
noncomputable def sTryAs (xs : Nat → Nat → Option Bool) (h i : Nat) (body : Ss) (suite : Xo → Ss) : Ss := fun e => match body e with
  | some (.ex x e1) => match xs x.c h with
    | some true => if i < e1.length then allEq fun o => aftr i (suite o (e1.set i (.sh (.xn o x)))) else none
    | some false => some (.ex x e1)
    | none => none
  | o => o
/-- except X -/
def sTry (xs : Nat → Nat → Option Bool) (h : Nat) (body suite : Ss) : Ss := fun e => match body e with
  | some (.ex x e1) => match xs x.c h with
    | some true => noX (suite e1)
    | some false => some (.ex x e1)
    | none => none
  | o => o
/-- the classes' kinship as the written part tells it -/
def XsOk (κ : Kx) (xs : Nat → Nat → Option Bool) (h : Nat) : Prop := ∀ c b, xs c h = some b → PySem.W.exmOne κ.K (.ref (κ.xc c)) (.ref (κ.xc h)) = some b
section
variable {X : Cx} {κ : Kx} {W : WX}
theorem Rep.goneS {H G : Hp} {σ : L2.St} {env : En} (r : Rep κ H G σ env) (i : Nat) : Rep κ H G (σ.set i none) (env.set i .un) ∧ Fr H G σ env H G (σ.set i none) (env.set i .un) := by
  have u : UnAt [i] (env.set i .un) := fun v hv s e => by
    have hv : v = i := by simpa using hv
    subst hv
    by_cases hl : v < env.length
    · rw [List.getElem?_set_self hl] at e
      exact (Option.some.inj e).symm
    · rw [List.getElem?_eq_none (by rw [List.length_set]; omega)] at e
      cases e
  have o : Off [i] σ (σ.set i none) := off_set (by simp)
  exact ⟨(r.drop1 i).off u o (List.length_set ..), (Fr.drop1 i).offR u o⟩
theorem SPost.aftr {i : Nat} {σ : L2.St} {H G : Hp} {env : En} {D0 : Ends} {o : Option SO} (q : SPost κ W σ H G env (aftr i o) D0) :
    SPost κ WF σ H G env o { nx := fun σ' H' => D0.nx (σ'.set i none) H', rt := D0.rt, bk := fun σ' H' => D0.bk (σ'.set i none) H', ct := fun σ' H' => D0.ct (σ'.set i none) H' } := by
  cases o with
  | none => exact q
  | some o => cases o with
    | nx e => exact fun σ' H' G' r f => q _ H' G' (r.goneS i).1 (f.trans (r.goneS i).2)
    | bk e => exact fun σ' H' G' r f => q _ H' G' (r.goneS i).1 (f.trans (r.goneS i).2)
    | ct e => exact fun σ' H' G' r f => q _ H' G' (r.goneS i).1 (f.trans (r.goneS i).2)
    | rt z => exact q
    | ex x e => exact q.elim
theorem SPost.noX {σ : L2.St} {H G : Hp} {env : En} {D0 : Ends} {o : Option SO} (q : SPost κ W σ H G env (noX o) D0) : SPost κ WF σ H G env o D0 := by
  cases o with
  | none => exact q
  | some o => cases o with
    | ex x e => exact q.elim
    | _ => exact q
variable {x n : Str} {h i : Nat} {xs : Nat → Nat → Option Bool} {body suite : List Stmt} {b₀ : Stmt} {np pos pos' : Pos} {mb : Ss} {ms : Xo → Ss} {m0 : Ss}
theorem s_tryAs (hs : X.stack = X.env :: X.outer) (hf : X.env.frame = some X.env.locals) (hN : X.N.Nodup) (hi : X.N[i]? = some n) (hln : X.env.kindOf n = some .local) (hK : X.K = κ.K) (hc : Names X x (.ref (κ.xc h))) (hx : XsOk κ xs h) (tk : Takes X W)
    (hb : ∀ (W : WX) (pn : List (Addr × Obj)) (xe : Value → Shared → Prop), Takes (X.tr pn xe) W → PassesOwn (model X.prog X.w) X.A X.env xe → PSs (X.tr pn xe) body (tS κ W mb))
    (hsu : ∀ (a : Addr) (oe : Obj) (cls : Value) (d : Option Addr) (pn : List (Addr × Obj)), Zc cls d oe → (∃ vs, oe.data = .fields vs) → PSs (X.suite a ((a, oe) :: pn)) (b₀ :: suite) (tS κ WF (ms ⟨a, cls, d⟩))) :
    PS X (.Try body [.ExceptHandler (some (.Name x np)) (some n) (b₀ :: suite) pos'] [] [] pos) (tS κ W (sTryAs xs h i mb ms)) :=
  PS.imp (ps_try_as (tb := fun W => tS κ W mb) (ts := fun a cls d => tS κ WF (ms ⟨a, cls, d⟩)) hs hf hN hi hln hc tk hb hsu) fun D0 σ H ⟨G, env, r, q⟩ => by
    refine ⟨G, env, r, ?_⟩
    unfold sTryAs at q
    cases w : mb env with
    | none => rw [w] at q; exact q
    | some o => cases o with
      | nx e => rw [w] at q; exact q
      | bk e => rw [w] at q; exact q
      | ct e => rw [w] at q; exact q
      | rt e => rw [w] at q; exact q
      | ex y e1 =>
        rw [w] at q
        dsimp only at q
        intro c d σ1 H1 G1 r1 xr f1
        cases z : xs y.c h with
        | none => rw [z] at q; exact q.elim
        | some b =>
          rw [z] at q
          refine ⟨b, ?_, fun hb a ha => ?_, fun hb => ?_⟩
          · rw [xr.1, hK]
            exact hx _ _ z
          · subst hb
            dsimp only at q
            by_cases hl : i < e1.length
            · rw [if_pos hl] at q
              obtain ⟨r2, f2⟩ := rep_sh (v := .ref a) (d := .xn ⟨a, c, d⟩ y) r1 hl (.xn (o := ⟨a, c, d⟩) xr)
              refine ⟨G1, _, r2, ?_⟩
              cases z2 : allEq fun o => aftr i (ms o (e1.set i (.sh (.xn o y)))) with
              | none => rw [z2] at q; exact q.elim
              | some u =>
                rw [z2] at q
                have e2 := allEq_of z2 ⟨a, c, d⟩
                rw [← e2] at q
                exact SPost.aftr (SPost.shift (f1.trans f2) q)
            · rw [if_neg hl] at q; exact q.elim
          · subst hb
            exact q c d σ1 H1 G1 r1 xr f1
theorem s_try (hs : X.stack = X.env :: X.outer) (hf : X.env.frame = some X.env.locals) (hK : X.K = κ.K) (hc : Names X x (.ref (κ.xc h))) (hx : XsOk κ xs h) (tk : Takes X W)
    (hb : ∀ (W : WX) (pn : List (Addr × Obj)) (xe : Value → Shared → Prop), Takes (X.tr pn xe) W → PassesOwn (model X.prog X.w) X.A X.env xe → PSs (X.tr pn xe) body (tS κ W mb))
    (hsu : ∀ (a : Addr) (oe : Obj) (cls : Value) (d : Option Addr) (pn : List (Addr × Obj)), Zc cls d oe → (∃ vs, oe.data = .fields vs) → PSs (X.suite a ((a, oe) :: pn)) (b₀ :: suite) (tS κ WF m0)) :
    PS X (.Try body [.ExceptHandler (some (.Name x np)) none (b₀ :: suite) pos'] [] [] pos) (tS κ W (sTry xs h mb m0)) :=
  PS.imp (ps_try_only (tb := fun W => tS κ W mb) (ts := fun a cls d => tS κ WF m0) hs hf hc tk hb hsu) fun D0 σ H ⟨G, env, r, q⟩ => by
    refine ⟨G, env, r, ?_⟩
    unfold sTry at q
    cases w : mb env with
    | none => rw [w] at q; exact q
    | some o => cases o with
      | nx e => rw [w] at q; exact q
      | bk e => rw [w] at q; exact q
      | ct e => rw [w] at q; exact q
      | rt e => rw [w] at q; exact q
      | ex y e1 =>
        rw [w] at q
        dsimp only at q
        intro c d σ1 H1 G1 r1 xr f1
        cases z : xs y.c h with
        | none => rw [z] at q; exact q.elim
        | some b =>
          rw [z] at q
          refine ⟨b, ?_, fun hb a ha => ?_, fun hb => ?_⟩
          · rw [xr.1, hK]
            exact hx _ _ z
          · subst hb
            exact ⟨G1, e1, r1, SPost.noX (SPost.shift f1 q)⟩
          · subst hb
            exact q c d σ1 H1 G1 r1 xr f1
/-! ### the caught error asked -/
open Classical in
/-- e.f -/
noncomputable def fXf (xfn : Nat → Option Str) (o : Xo) (i : Nat) (f : Str) : Sm D := fun env => match env[i]? with
  | some (.sh (.xn o' x)) => if o' = o ∧ xfn x.c = some f then match x.a with
    | some z => some (.ok (.int z) env)
    | none => none
    else none
  | _ => none
theorem v_xf {xfn : Nat → Option Str} (hxe : κ.xf = xfn) {a : Addr} {oe : Obj} {cls : Value} {d : Option Addr} {pn : List (Addr × Obj)} {apos : Pos} {f : Str} (hK : X.K = κ.K) (hxf : ∀ c, κ.xf c = some f → L2.XfC κ.K (κ.xc c) ∧ PySem.W.findIn κ.K (.ref (κ.xc c)) f = some none)
    (hz : Zc cls d oe) (hf : ∃ vs, oe.data = .fields vs) (he : PE (X.suite a ((a, oe) :: pn)) (.Name x np) (tVar i)) (hb : attributeBase (.Name x np) f X.env (eval (.Name x np) X.env) = eval (.Name x np) X.env := by rfl) :
    PE (X.suite a ((a, oe) :: pn)) (.Attribute (.Name x np) f apos) (tX κ W (RP κ) (fXf xfn ⟨a, cls, d⟩ i f)) := by
  subst hxe
  refine ⟨fun pins s σ H Q I ⟨G, env, r, q⟩ => ?_⟩
  unfold fXf at q
  split at q
  · rename_i o' x' e
    split at q
    · rename_i w
      obtain ⟨rfl, w2⟩ := w
      obtain ⟨v, h1, h2⟩ := r.slot i _ e
      cases h2 with
      | xn xr =>
        obtain ⟨ec, xr2⟩ := xr
        rw [w2] at xr2
        cases za : x'.a with
        | none => rw [za] at q; exact q.elim
        | some z =>
          rw [za] at xr2 q
          obtain ⟨b, eb, hb'⟩ := xr2
          obtain ⟨T, hno⟩ := hxf _ w2
          rw [← hK] at T hno
          exact (pe_xf T hno hz hf he hb).run pins s σ H Q I ⟨_, h1, rfl, ec, b, _, _, eb, r.sub _ _ hb', by simp [List.lookup], q _ H G r (.int z) (Same.refl _) Fr.refl⟩
    · exact q.elim
  · exact q.elim
/-- what the written part says of an error class, for isinstance -/
structure IsC (K : PySem.W.Frag) (C : Addr) : Prop where
  ic : PySem.W.isClsIn K C = true
  ga : PySem.W.findIn K (.ref C) "__getattribute__" = some (some (.builtin "BaseException.__getattribute__"))
  gg : PySem.W.findIn K (.ref C) "__getattr__" = some none
  sb : PySem.W.subIn K (.ref C) (.type "BaseException") = some true
  ha : PySem.W.findIn K (.ref C) "__class__" = some (some (.builtin "object.__class__"))
  mo : PySem.W.mroIn K C (.type "object") = some true
structure IsB (K : PySem.W.Frag) : Prop where
  hn : PySem.W.specialIn K (.builtin "object.__class__") "__get__" = some (some (.builtin "getset_descriptor.__get__"))
  ht : PySem.W.takesIn K (.builtin "object.__class__") = some true
def KsOk (κ : Kx) (us : List Value) (t : Nat → Option Bool) : Prop := ∀ c b, t c = some b → IsC κ.K (κ.xc c) ∧ PySem.W.kitAny κ.K (.ref (κ.xc c)) us = some b
def rIsX (κ : Kx) (cls : Value) (d : Option Addr) (a : Addr) : List V → Hp → VK → Prop := fun xs H Q => ∃ (c : V) (cv : Value) (b : Bool) (y : Ex), xs = [.ref a, c] ∧ ClsV c cv ∧ XR κ H y cls d ∧ IsC κ.K (κ.xc y.c) ∧ PySem.W.kitOne κ.K cls cv = some b ∧ Q (.bl b) H
def rIsXT (κ : Kx) (cls : Value) (d : Option Addr) (a : Addr) : List V → Hp → VK → Prop := fun xs H Q => ∃ (tp : Addr) (cs : List V) (us : List Value) (b : Bool) (y : Ex), xs = [.ref a, .ref tp] ∧ H tp = some (.tup cs) ∧ Paired ClsV cs us ∧ XR κ H y cls d ∧ IsC κ.K (κ.xc y.c) ∧ PySem.W.kitAny κ.K cls us = some b ∧ Q (.bl b) H
theorem inst_x {a : Addr} {oe : Obj} {cls : Value} {d : Option Addr} {pn pins : List (Addr × Obj)} {σ : L2.St} {H : Hp} {s : Shared} {y : Ex} (hK : X.K = κ.K) (hB : IsB κ.K) (hz : Zc cls d oe) (hf : ∃ vs, oe.data = .fields vs) (I : Inv (X.suite a ((a, oe) :: pn)) pins σ H s) (xr : XR κ H y cls d) (ic : IsC κ.K (κ.xc y.c)) :
    ∃ P : Heap → Prop, PySem.W.KitX κ.K (.ref a) cls P ∧ P s.heap := by
  obtain ⟨ha, _⟩ := I.pin (a, oe) (List.mem_append_left _ List.mem_cons_self)
  obtain ⟨vs, hd⟩ := hf
  obtain ⟨ec, x2⟩ := xr
  subst ec
  have nc : PySem.W.notCls oe = true := by unfold PySem.W.notCls; rw [hd] <;> rfl
  have fin : ∀ {od : Option Obj}, PySem.W.InstAt s.heap a oe (κ.xc y.c) od → ∃ P : Heap → Prop, PySem.W.KitX κ.K (.ref a) (.ref (κ.xc y.c)) P ∧ P s.heap := fun {od} J =>
    ⟨_, PySem.W.kitx_exc ic.ic ic.ga ic.gg ic.sb ic.ha hB.hn hB.ht ic.mo, J⟩
  cases d with
  | none => exact fin (od := none) ⟨ha, hz.1, nc, by rw [hz.2]; trivial⟩
  | some dd =>
    split at x2
    · cases x2
    · obtain ⟨b, eb, hb⟩ := x2
      cases eb
      have hx := I.hok dd _ hb
      obtain ⟨mA, hns, hr⟩ := hx
      obtain ⟨od, ho, hl⟩ := lookIn_ns hns
      exact fin (od := some od) ⟨ha, hz.1, nc, by rw [hz.2]; exact ho⟩
    · exact x2.elim
theorem call_isX {a : Addr} {oe : Obj} {cls : Value} {d : Option Addr} {pn : List (Addr × Obj)} (hK : X.K = κ.K) (hB : IsB κ.K) (hz : Zc cls d oe) (hf : ∃ vs, oe.data = .fields vs) : CallR (X.suite a ((a, oe) :: pn)) (.builtin "isinstance") (rIsX κ cls d a) := by
  intro pins s σ H xs us Q I r h
  obtain ⟨c, cv, b, y, rfl, k, xr, ic, e, q⟩ := h
  obtain ⟨u1, u2, rfl, r1, r2⟩ := vals2 r
  cases (show u1 = Value.ref a from r1)
  have e2 := k.eq r2
  subst e2
  obtain ⟨P, Z, p⟩ := inst_x hK hB hz hf I xr ic
  have kin : κ.K.In s.heap := hK ▸ I.kIn
  exact PySem.W.kia_one Z kin p e (fun z => nomatch z) fun tk => ⟨.bl b, H, I.tok tk, rfl, q⟩
theorem call_isXT {a : Addr} {oe : Obj} {cls : Value} {d : Option Addr} {pn : List (Addr × Obj)} (hK : X.K = κ.K) (hB : IsB κ.K) (hz : Zc cls d oe) (hf : ∃ vs, oe.data = .fields vs) : CallR (X.suite a ((a, oe) :: pn)) (.builtin "isinstance") (rIsXT κ cls d a) := by
  intro pins s σ H xs us Q I r h
  obtain ⟨tp, cs, ws, b, y, rfl, hT, k, xr, ic, e, q⟩ := h
  obtain ⟨u1, u2, rfl, r1, r2⟩ := vals2 r
  cases (show u1 = Value.ref a from r1)
  cases (show u2 = Value.ref tp from r2)
  obtain ⟨P, Z, p⟩ := inst_x hK hB hz hf I xr ic
  have kin : κ.K.In s.heap := hK ▸ I.kIn
  obtain ⟨_, its, rv, o, h1, h2, n, h3⟩ := (show ObjOk X.prog X.w H s.heap tp (.tup cs) from I.hok tp _ hT)
  have e3 := ClsV.all k rv
  subst e3
  obtain ⟨oc, od, dt, sl⟩ := o
  simp only at h2 h3
  subst h2 h3
  exact PySem.W.kia_tup Z kin p h1 e (fun z => nomatch z) fun tk => ⟨.bl b, H, I.tok tk, rfl, q⟩
open Classical in
/-- isinstance(e, ..) -/
noncomputable def fXi (t : Nat → Option Bool) (o : Xo) (i : Nat) : Sm D := fun env => match env[i]? with
  | some (.sh (.xn o' x)) => if o' = o then match t x.c with
    | some b => some (.ok (.bl b) env)
    | none => none
    else none
  | _ => none
theorem fxi_of {t : Nat → Option Bool} {o : Xo} {i : Nat} {σ : L2.St} {H G : Hp} {env : En} {P : V → Hp → Prop} (r : Rep κ H G σ env) (q : EPost κ W (RP κ) σ H G env (fXi t o i env) P) : ∃ (y : Ex) (b : Bool), σ[i]? = some (some (.ref o.a)) ∧ XR κ H y o.cls o.d ∧ t y.c = some b ∧ EPost κ W (RP κ) σ H G env (some (.ok (.bl b) env)) P := by
  unfold fXi at q
  split at q
  · rename_i o' x' e
    split at q
    · rename_i w
      subst w
      obtain ⟨v, h1, h2⟩ := r.slot i _ e
      cases h2 with
      | xn xr =>
        cases z : t x'.c with
        | none => rw [z] at q; exact q.elim
        | some b => rw [z] at q; exact ⟨x', b, h1, xr.mono r.sub, z, q⟩
    · exact q.elim
  · exact q.elim
theorem v_isX {a : Addr} {oe : Obj} {cls : Value} {d : Option Addr} {pn : List (Addr × Obj)} {p p2 pos : Pos} {T : Str} {cV : V} {cv : Value} {t : Nat → Option Bool} (hK : X.K = κ.K) (hB : IsB κ.K) (hk : KsOk κ [cv] t) (hz : Zc cls d oe) (hf : ∃ vs, oe.data = .fields vs) (hg : Gl X "isinstance") (hm : X.mg "isinstance" = none) (hcv : ClsV cV cv)
    (hT : PE (X.suite a ((a, oe) :: pn)) (.Name T p2) (tC cV)) (ho : PE (X.suite a ((a, oe) :: pn)) (.Name x np) (tVar i))
    (hv : bootBuiltins "isinstance" = some (.builtin "isinstance") := by decide +kernel) (hst : starEach [.Name x np, .Name T p2] X.env = [(false, eval (.Name x np) X.env), (false, eval (.Name T p2) X.env)] := by rfl) (hst2 : starEach [.Name T p2] X.env = [(false, eval (.Name T p2) X.env)] := by rfl) (hpl : (backTo pos (starEach [.Name T p2] X.env)).any (·.1) = false := by rfl) :
    PE (X.suite a ((a, oe) :: pn)) (.Call (.Name "isinstance" p) [.Name x np, .Name T p2] [] pos) (tX κ W (RP κ) (fXi t ⟨a, cls, d⟩ i)) :=
  PE.imp (pe_callB (X := X.suite a ((a, oe) :: pn)) (call_isX hK hB hz hf) hg hm hv (pa_cons ho (pa_cons hT pa_nil (by rw [hst2]; rfl)) (by rw [hst, hst2])) (by decide) (by decide) (by rw [hst, hst2]) hpl) fun σ H Q ⟨G, env, rp, q⟩ => by
    obtain ⟨y, b, h1, xr, e, q1⟩ := fxi_of rp q
    obtain ⟨ic, k1⟩ := hk _ _ e
    have k2 : PySem.W.kitOne κ.K (.ref (κ.xc y.c)) cv = some b := by
      unfold PySem.W.kitAny at k1
      split at k1
      · rename_i z; rw [z, ← k1]
      · rename_i z; unfold PySem.W.kitAny at k1; rw [z, ← k1]
      · cases k1
    exact ⟨.ref a, h1, cV, cv, b, y, rfl, hcv, xr, ic, by rw [show cls = .ref (κ.xc y.c) from xr.1]; exact k2, q1 _ H G rp (.bl b) (Same.refl _) Fr.refl⟩
end
/-! ### a default -/
theorem RBs.snoc {κ : Kx} {H G : Hp} {m : Bool} {v : V} {d : D} (r : Rp κ G v d) : ∀ {ms : List Bool} {vs : List V} {ds : List D}, RBs κ H G ms vs ds → RBs κ H G (ms ++ [m]) (vs ++ [v]) (ds ++ [d])
  | _, _, _, .nil => by
    cases m with
    | true => exact .bo (.inl r) .nil
    | false => exact .sh r .nil
  | _, _, _, .sh a t => .sh a (RBs.snoc r t)
  | _, _, _, .bo a t => .bo a (RBs.snoc r t)
/-- a def whose last parameter has a number as its default -/
structure VFnD (P : Program) (w : World) (κ : Kx) (mg : Str → Option Value) (base : Heap) (x : Str) (k : Nat) (ms : List Bool) (g : FSem) (dv : Int) : Prop where
  ex : ∃ (f : Addr) (fd : FuncData) (ps : List Str), mg x = some (.ref f) ∧ PySem.W.keepIn κ.K (.ref f) = true ∧ FnOk P w κ.K mg base (L2.CX P w) k f fd ps (spV κ ms g) ∧ Binds κ.K fd ps [] ∧ ∃ ds, Vals [V.int dv] ds ∧ Binds κ.K fd ps ds
theorem VFnD.v {P : Program} {w : World} {κ : Kx} {mg : Str → Option Value} {base : Heap} {x : Str} {k : Nat} {ms : List Bool} {g : FSem} {dv : Int} (F : VFnD P w κ mg base x k ms g dv) : VFn P w κ mg base x k ms g := by
  obtain ⟨f, fd, ps, h1, h2, h3, h4, _⟩ := F.ex
  exact ⟨f, fd, ps, h1, h2, h3, h4⟩
def fCallD (g : FSem) (dv : Int) (m : Sm (List D)) : Sm Rs := bnd m fun ds e => match g (ds ++ [.int dv]) with
  | some (.rt r) => some (.ok r e)
  | some (.ex x) => some (.ex x e)
  | none => none
section
variable {X : Cx} {κ : Kx} {W : WX} {e : Expr} {es : List Expr} {ms : List Bool} {g : FSem} {mr : Sm (List D)} {k : Nat} {x : Str} {p pos : Pos} {dv : Int} {m : Bool}
theorem v_callD (F : VFnD X.prog X.w κ X.mg X.base x k (ms ++ [m]) g dv) (hK : X.K = κ.K) (hr : Room k X.A) (tk : Takes X W) (hg : Gl X x) (ha : PA X (e :: es) (tX κ W (RA κ ms) mr)) (hdb : (x == ("__debug__" : Str)) = false := by decide)
    (he : starEach (e :: es) X.env = (false, eval e X.env) :: starEach es X.env := by rfl) (hpl : (backTo pos (starEach es X.env)).any (·.1) = false := by rfl) : PE X (.Call (.Name x p) (e :: es) [] pos) (tX κ W (RV κ) (fCallD g dv mr)) := by
  obtain ⟨f, fd, ps, hm, hk, F1, _, ds, hv, hb⟩ := F.ex
  rw [← hK] at hk F1 hb
  refine PE.imp (pe_callSD F1 hr hg hm hk hb hv (fun σ => passAt tk σ) ha hdb he hpl) fun σ H Q ⟨G, env, r, q⟩ => ?_
  exact bind_post r q fun d e1 vs H1 G1 em r1 rv s1 f1 q1 => call_post (ms := ms ++ [m]) r1 (RBs.snoc (.int dv) rv) q1
end
theorem FunD.two {κ : Kx} {x qual : Str} {st : Stmt} {f : Addr} {fd : FuncData} {ps : List Str} {dv : Int} (F : FunD κ.K x qual (defArgs st) (defBody st) (defScope st) [V.int dv] [] f fd) (n : Nat) (hn : n + 1 = ps.length)
    (h1 : ∀ (T : Addr) (kV doc pm : Value) (an : Option Addr) (cdv ct : Value) (us : List Value) (d : Value), us.length = n → ∃ k, bindArgs (PySem.W.fnOf x qual (defArgs st) (defBody st) (defScope st) (.ref T) kV doc pm an cdv ct) ⟨us, []⟩ = seqItems? (.ref T) >>= k ∧ k (some #[d]) = pure (ps.zip (us ++ [d])))
    (h2 : ∀ (T : Addr) (kV doc pm : Value) (an : Option Addr) (cdv ct : Value) (us : List Value) (d : Value), us.length = n + 1 → ∃ k, bindArgs (PySem.W.fnOf x qual (defArgs st) (defBody st) (defScope st) (.ref T) kV doc pm an cdv ct) ⟨us, []⟩ = seqItems? (.ref T) >>= k ∧ k (some #[d]) = pure (ps.zip us)) :
    Binds κ.K fd ps [] ∧ ∃ ds, Vals [V.int dv] ds ∧ Binds κ.K fd ps ds := by
  constructor
  · obtain ⟨ds, hv, hb⟩ := F.binds1 (n + 1) 1 (by simp) (by simpa using hn) fun T kV doc pm an cdv ct us its hu hi => by
      match its, hi with
      | [d], _ =>
        obtain ⟨k, e1, e2⟩ := h2 T kV doc pm an cdv ct us d hu
        exact ⟨k, e1, by rw [show ([d] : List Value).drop 1 = [] from rfl, List.append_nil]; exact e2⟩
    cases hv
    exact hb
  · exact F.binds1 n 0 (by simp) (by simpa using hn) fun T kV doc pm an cdv ct us its hu hi => by
      match its, hi with
      | [d], _ => exact h1 T kV doc pm an cdv ct us d hu
/-! ### kinship from the written part -/
section
variable {K : PySem.W.Frag} {S C : Addr} {b : Bool}
theorem exm_ofs {c : Value} (h1 : PySem.W.subIn K (.ref S) (.type "BaseException") = some true) (h2 : PySem.W.isClsIn K S = true) (h3 : PySem.W.typeIn K (.ref S) = some (.type "type")) (h4 : PySem.W.subIn K c (.ref S) = some b) : PySem.W.exmOne K c (.ref S) = some b := by
  have e1 : (PySem.W.subIn K (.ref S) (.type "BaseException") == some true) = true := by rw [h1] <;> rfl
  have e2 : ((PySem.W.clsIn K S).isSome && PySem.W.typeIn K (.ref S) == some (.type "type")) = true := by
    have h2' : (PySem.W.clsIn K S).isSome = true := h2
    rw [h2', h3] <;> rfl
  show (if (PySem.W.subIn K (.ref S) (.type "BaseException") == some true) = true then (if ((PySem.W.clsIn K S).isSome && PySem.W.typeIn K (.ref S) == some (.type "type")) = true then PySem.W.subIn K c (.ref S) else none) else none) = some b
  rw [if_pos e1, if_pos e2]
  exact h4
theorem kit_ofs (hn : (Value.ref C == Value.ref S) = false) (h2 : PySem.W.isClsIn K S = true) (h3 : PySem.W.typeIn K (.ref S) = some (.type "type")) (h4 : PySem.W.subIn K (.ref C) (.ref S) = some b) : PySem.W.kitAny K (.ref C) [.ref S] = some b := by
  have e2 : ((PySem.W.clsIn K S).isSome && PySem.W.typeIn K (.ref S) == some (.type "type")) = true := by
    have h2' : (PySem.W.clsIn K S).isSome = true := h2
    rw [h2', h3] <;> rfl
  have e : PySem.W.kitOne K (.ref C) (.ref S) = some b := by
    unfold PySem.W.kitOne
    rw [hn, if_neg Bool.false_ne_true]
    show (if ((PySem.W.clsIn K S).isSome && PySem.W.typeIn K (.ref S) == some (.type "type")) = true then PySem.W.subIn K (.ref C) (.ref S) else none) = some b
    rw [if_pos e2]
    exact h4
  cases b with
  | true => exact kitAny_cons e (fun h => nomatch h) fun _ => rfl
  | false => exact kitAny_cons e (fun _ => rfl) fun h => nomatch h
theorem kit_self : PySem.W.kitAny K (.ref C) [.ref C] = some true := by
  have e : PySem.W.kitOne K (.ref C) (.ref C) = some true := by
    unfold PySem.W.kitOne
    rw [if_pos (beq_self_eq_true _)]
  exact kitAny_cons e (fun h => nomatch h) fun _ => rfl
theorem kit_VE (h : PySem.W.subIn K (.ref C) (.type "ValueError") = some true) : PySem.W.kitAny K (.ref C) [.type "ValueError"] = some true := by
  have e : PySem.W.kitOne K (.ref C) (.type "ValueError") = some true := by
    unfold PySem.W.kitOne
    rw [if_neg (show ¬ (Value.ref C == Value.type "ValueError") = true from fun z => nomatch (beq_iff_eq.mp z))]
    show (if PySem.W.kitMeta "ValueError" = true then PySem.W.subIn K (.ref C) (.type "ValueError") else none) = some true
    rw [if_pos (by decide +kernel)]
    exact h
  exact kitAny_cons e (fun h => nomatch h) fun _ => rfl
end
end Vs

set_option Elab.async false
set_option linter.all false
set_option maxRecDepth 100000
set_option maxHeartbeats 2000000
/-! Vs4: more of the built-ins. -/
namespace Vs
open PySem L2
/-! ### < over data -/
def rLtD (K : PySem.W.Frag) : R2 := fun x y H Q => ∃ d e, Dp K H x d ∧ Dp K H y e ∧ PySem.W.alike d e = true ∧ d ≠ .none ∧ d.depth ≤ 64 ∧ Q (.bl (PySem.W.dataLt d e)) H
theorem op_ltD {X : Cx} (hu : X.A.units + 64 < cLine) : OpR X (compareOp .Lt) (rLtD X.K) := by
  intro pins s σ H x y v u Q I rx ry h
  obtain ⟨d, e, hd, he, ha, hn, hz, q⟩ := h
  obtain ⟨as, r1⟩ := Dp.reads I d x v hd rx
  obtain ⟨bs, r2⟩ := Dp.reads I e y u he ry
  exact PySem.W.lt_data r1 r2 ha hn (by omega) ⟨.bl _, H, I, rfl, q⟩
def dLt (x y : D) : Option Bool := if x.pl = true ∧ y.pl = true ∧ PySem.W.alike x.toP y.toP = true ∧ x.toP.depth ≤ 64 then some (PySem.W.dataLt x.toP y.toP) else none
def cLtA : D → D → Option Bool
  | .int i, .int j => some (decide (i < j))
  | .str a, .str b => some (decide (a < b))
  | .lst a, .lst b => dLt (.lst a) (.lst b)
  | .tup a, .tup b => dLt (.tup a) (.tup b)
  | _, _ => none
def rLtA (κ : Kx) : R2 := fun x y H Q => rCm (fun i j => decide (i < j)) (fun a b => decide (a < b)) x y H Q ∨ rLtD κ.K x y H Q
theorem o_ltA {X : Cx} {κ : Kx} (hK : X.K = κ.K) (hu : X.A.units + 64 < cLine) : OpR X (compareOp .Lt) (rLtA κ) := by
  unfold rLtA
  rw [← hK]
  exact OpR.or o_lt (op_ltD hu)
theorem dLt_of {κ : Kx} {x y : V} {dx dy : D} {z : Bool} {H G : Hp} {Q : VK} (hn : dx.toP ≠ .none) (e : dLt dx dy = some z) (s : Same G H) (rx : RBq κ H G x dx) (ry : RBq κ H G y dy) (q : Q (.bl z) H) : rLtD κ.K x y H Q := by
  unfold dLt at e
  split at e
  · rename_i h
    cases e
    exact ⟨_, _, rx.dp s h.1, ry.dp s h.2.1, h.2.2.1, hn, h.2.2.2, q⟩
  · cases e
theorem s_ltA {κ : Kx} : OpB κ (rLtA κ) cLtA := fun x y dx dy z H G Q e s rx ry q => by
  cases dx <;> cases dy <;> try (cases e; done)
  · rename_i i j
    exact .inl (s_cm x y (.int i) (.int j) z H G Q e s rx ry q)
  · rename_i i j
    exact .inl (s_cm x y (.str i) (.str j) z H G Q e s rx ry q)
  · exact .inr (dLt_of (by simp only [D.toP]; exact fun z => nomatch z) e s rx ry q)
  · exact .inr (dLt_of (by simp only [D.toP]; exact fun z => nomatch z) e s rx ry q)
/-! ### in, over data -/
def inD (x y : D) : Option Bool := match y with
  | .lst l => if x.okE = true ∧ (D.lst l).okE = true then some ((toPA l).any fun z => PyData.eqv z x.toP) else none
  | _ => none
def cInA : D → D → Option Bool := fun x y => match cIn x y with
  | some b => some b
  | none => inD x y
def cNinA : D → D → Option Bool := fun x y => match cInA x y with
  | some b => some (!b)
  | none => none
theorem units65 {k : Nat} {A : Around} (r : Room k A) : A.units + 65 < cLine := by have := r.un; omega
def rInX (κ : Kx) : R2 := fun x y H Q => rInA κ false x y H Q ∨ rInD κ.K x y H Q
def rNinX (κ : Kx) : R2 := fun x y H Q => rInA κ true x y H Q ∨ rNotInD κ.K x y H Q
theorem o_inA {X : Cx} {κ : Kx} (hK : X.K = κ.K) (hr : X.A.units + 65 < cLine) : OpR X (compareOp .In) (rInX κ) := by
  unfold rInX
  refine OpR.or (o_in hK) ?_
  rw [← hK]
  exact op_inD hr
theorem o_ninA {X : Cx} {κ : Kx} (hK : X.K = κ.K) (hr : X.A.units + 65 < cLine) : OpR X (compareOp .NotIn) (rNinX κ) := by
  unfold rNinX
  refine OpR.or (o_nin hK) ?_
  rw [← hK]
  exact op_notInD hr
theorem inD_of {κ : Kx} {x y : V} {dx dy : D} {z : Bool} {H G : Hp} (e : inD dx dy = some z) (s : Same G H) (rx : RBq κ H G x dx) (ry : RBq κ H G y dy) : ∃ d ds, Dp κ.K H x d ∧ Dp κ.K H y (.list ds) ∧ SeqAt.shaped d = true ∧ SeqAt.shaped (.list ds) = true ∧ z = ds.any fun u => PyData.eqv u d := by
  cases dy with
  | lst l =>
    dsimp only [inD] at e
    by_cases o : dx.okE = true ∧ (D.lst l).okE = true
    · rw [if_pos o] at e
      cases e
      have hl := ry.dp s (okE_pl o.2)
      have hs := okE_shaped o.2
      simp only [D.toP] at hl hs
      exact ⟨_, _, rx.dp s (okE_pl o.1), hl, okE_shaped o.1, hs, rfl⟩
    · rw [if_neg o] at e; cases e
  | _ => cases e
theorem s_inA {κ : Kx} : OpB κ (rInX κ) cInA := fun x y dx dy z H G Q e s rx ry q => by
  unfold cInA at e
  cases h : cIn dx dy with
  | some b =>
    rw [h] at e
    cases e
    exact .inl (s_in x y dx dy _ H G Q h s rx ry q)
  | none =>
    rw [h] at e
    obtain ⟨d, ds, h1, h2, h3, h4, h5⟩ := inD_of e s rx ry
    exact .inr ⟨d, ds, h1, h2, h3, h4, h5 ▸ q⟩
theorem s_ninA {κ : Kx} : OpB κ (rNinX κ) cNinA := fun x y dx dy z H G Q e s rx ry q => by
  unfold cNinA at e
  cases h : cInA dx dy with
  | none => rw [h] at e; cases e
  | some b =>
    rw [h] at e
    cases e
    unfold cInA at h
    cases h2 : cIn dx dy with
    | some b2 =>
      rw [h2] at h
      cases h
      exact .inl (s_nin x y dx dy _ H G Q (by unfold cNin; rw [h2]) s rx ry q)
    | none =>
      rw [h2] at h
      obtain ⟨d, ds, h1, h2, h3, h4, h5⟩ := inD_of h s rx ry
      exact .inr ⟨d, ds, h1, h2, h3, h4, h5 ▸ q⟩
/-! ### reversed(range(..)) -/
section
variable {X : Cx} {κ : Kx} {W : WX} {tg a b e : Expr} {ma mb : Sm D} {p p2 pos pos2 : Pos}
def rngR (s : Int) (n : Nat) : List D := (List.range n).map fun (k : Nat) => D.int (s - (k : Int))
theorem rngR_yields {s : Int} {n : Nat} {σ : L2.St} {N : Addr → Prop} {H G : Hp} {env : En} : RI κ σ N H G env (Itc s (-1) n) (rngR s n) := by
  refine ⟨fun _ => False, fun _ z => z.elim, fun H' G' _ _ _ i => ⟨fun d hd => ?_, fun hi => ?_⟩⟩
  · unfold rngR at hd
    rw [List.getElem?_map] at hd
    cases hw : (List.range n)[i]? with
    | none => rw [hw] at hd; cases hd
    | some k =>
      rw [hw] at hd
      cases hd
      obtain ⟨hi, ek⟩ := List.getElem?_eq_some_iff.mp hw
      rw [List.getElem_range] at ek
      subst ek
      exact ⟨show i < n by simpa using hi, fun y H2 ⟨e2, ey⟩ => .inl ⟨e2, by rw [ey, show s + (i : Int) * -1 = s - (i : Int) by omega]; exact .int _⟩⟩
  · show n ≤ i
    unfold rngR at hi
    simpa using hi
def fRr1 (m : Sm D) : Sm (List D) := bnd m fun d e => match d with
  | .int j => if j ≤ 1000000 ∧ -1000000 ≤ j then some (.ok (rngR (((j.toNat : Nat) : Int) - 1) j.toNat) e) else none
  | _ => none
def fRr2 (ma mb : Sm D) : Sm (List D) := bnd ma fun d => bnd mb fun f e => match d, f with
  | .int i, .int j => if (j ≤ 1000000 ∧ -1000000 ≤ j) ∧ i ≤ 1000000 ∧ -1000000 ≤ i then some (.ok (rngR (i + (((j - i).toNat : Nat) : Int) - 1) (j - i).toNat) e) else none
  | _, _ => none
theorem i_rr1 (hg : Gl X "reversed") (hm : X.mg "reversed" = none) (hg2 : Gl X "range") (hm2 : X.mg "range" = none) (h : PE X a (tX κ W (RB κ) ma)) (na : starEach [a] X.env = (false, eval a X.env) :: starEach [] X.env := by rfl)
    (hs : starEach [.Call (.Name "range" p) [a] [] pos] X.env = (false, eval (.Call (.Name "range" p) [a] [] pos) X.env) :: starEach [] X.env := by rfl) :
    PI X tg (.Call (.Name "reversed" p2) [.Call (.Name "range" p) [a] [] pos] [] pos2) (tX κ W (RI κ) (fRr1 ma)) := ⟨fun pins s σ H R I ⟨G, env, r, q⟩ => (pi_revR hg hm (prg_1 hg2 hm2 h na) hs).run pins s σ H R I (bind_post r q fun d e1 v H1 G1 em r1 rv s1 f1 q1 => by
  cases d with
  | int j =>
    dsimp only at q1
    by_cases hj : j ≤ 1000000 ∧ -1000000 ≤ j
    · rw [if_pos hj] at q1
      refine ⟨j, RBq.int rv, by omega, by omega, by omega, by omega, ?_⟩
      rw [show (0 : Int) + (((j - 0).toNat : Nat) : Int) - 1 = ((j.toNat : Nat) : Int) - 1 by omega, show (j - 0).toNat = j.toNat by omega]
      exact q1 _ H1 G1 r1 rngR_yields (Same.refl _) Fr.refl
    · rw [if_neg hj] at q1; exact q1.elim
  | _ => exact q1.elim)⟩
theorem i_rr2 (hg : Gl X "reversed") (hm : X.mg "reversed" = none) (hg2 : Gl X "range") (hm2 : X.mg "range" = none) (h : PE X a (tX κ W (RB κ) ma)) (hb : PE X b (tX κ W (RB κ) mb)) (na : starEach [a, b] X.env = (false, eval a X.env) :: starEach [b] X.env := by rfl) (nb : starEach [b] X.env = (false, eval b X.env) :: starEach [] X.env := by rfl) (hp : (backTo pos (starEach [b] X.env)).any (·.1) = false := by rfl)
    (hs : starEach [.Call (.Name "range" p) [a, b] [] pos] X.env = (false, eval (.Call (.Name "range" p) [a, b] [] pos) X.env) :: starEach [] X.env := by rfl) :
    PI X tg (.Call (.Name "reversed" p2) [.Call (.Name "range" p) [a, b] [] pos] [] pos2) (tX κ W (RI κ) (fRr2 ma mb)) := ⟨fun pins s σ H R I ⟨G, env, r, q⟩ => (pi_revR hg hm (prg_2 hg2 hm2 h hb na nb hp) hs).run pins s σ H R I (bind_post r q fun d e1 v H1 G1 em r1 rv s1 f1 q1 => bind_post r1 q1 fun d2 e2 v2 H2 G2 em2 r2 rv2 s2 f2 q2 => by
  cases d <;> cases d2 <;> try (exact q2.elim)
  rename_i i j
  dsimp only at q2
  by_cases hj : (j ≤ 1000000 ∧ -1000000 ≤ j) ∧ i ≤ 1000000 ∧ -1000000 ≤ i
  · rw [if_pos hj] at q2
    exact ⟨i, j, RBq.int rv, RBq.int rv2, by omega, by omega, by omega, by omega, q2 _ H2 G2 r2 rngR_yields (Same.refl _) Fr.refl⟩
  · rw [if_neg hj] at q2; exact q2.elim)⟩
end
/-! ### int(..) -/
def opInt : List D → Option Rs
  | [.int i] => some (.sh (.int i))
  | [.bl b] => some (.sh (.int (if b then 1 else 0)))
  | [.str w] => if w.length ≤ 640 then match PySem.intText? (S w) with
    | some n => some (.sh (.int n))
    | none => none
    else none
  | _ => none
def rIntA : List V → Hp → VK → Prop := fun xs H Q => ((∃ i, xs = [.int i] ∧ Q (.int i) H) ∨ ∃ k, xs = [.bl k] ∧ Q (.int (if k then 1 else 0)) H) ∨ ∃ a n, xs = [.str a] ∧ PySem.intText? a = some n ∧ a.length ≤ 640 ∧ Q (.int n) H
theorem call_intA {X : Cx} : CallR X (.type "int") rIntA := fun pins s σ H xs us Q I r h => by
  rcases h with h | h
  · exact call_int1 pins s σ H xs us Q I r h
  · exact call_int_str pins s σ H xs us Q I r h
theorem s_int {κ : Kx} : ClV κ [true] rIntA opInt := fun W σ vs ds z H G env Q e r rx q => by
  match ds, rx with
  | [d], rx =>
    obtain ⟨v, rfl, rv⟩ := rx.one
    cases d <;> try (cases e; done)
    · cases e
      exact .inl (.inr ⟨_, by rw [rv.bl], post_sh r (.int _) q⟩)
    · cases e
      exact .inl (.inl ⟨_, by rw [rv.int], post_sh r (.int _) q⟩)
    · rename_i w
      dsimp only [opInt] at e
      by_cases hl : w.length ≤ 640
      · rw [if_pos hl] at e
        cases hn : PySem.intText? (S w) with
        | none => rw [hn] at e; cases e
        | some n =>
          rw [hn] at e
          cases e
          exact .inr ⟨S w, n, by rw [rv.str], hn, by rw [S_len]; exact hl, post_sh r (.int _) q⟩
      · rw [if_neg hl] at e; cases e
  | [], rx => cases e
  | x :: y :: t, rx => cases x <;> cases e
/-! ### a, b = x, y -/
def sPar (i j : Nat) (m : Sm (List D)) : Ss := sbnd m fun ds e => match ds with
  | [x, y] => if i < e.length ∧ j < e.length then some (.nx ((e.set i (.sh x)).set j (.sh y))) else none
  | _ => none
section
variable {X : Cx} {κ : Kx} {W : WX} {m : Sm (List D)}
theorem s_par {i j : Nat} {x y : Str} {a b : Expr} {px py pt : Pos} {kt k2 pt2} {pos : Pos} (hc : X.calm = true) (hN : X.N.Nodup) (hi : X.N[i]? = some x) (hj : X.N[j]? = some y) (hij : i ≠ j)
    (hx : X.env.scope.names.lookup x = some .local) (hy : X.env.scope.names.lookup y = some .local) (ha : PA X [a, b] (tX κ W (RA κ [false, false]) m))
    (hw : swappedStores [.Tuple [.Name x px, .Name y py] kt pt] (.Tuple [a, b] k2 pt2) X.env = pure (some [x, y]))
    (hs : swapsWithSole [.Tuple [.Name x px, .Name y py] kt pt] (.Tuple [a, b] k2 pt2) pos.line X.env = pure false := by rfl) :
    PS X (.Assign [.Tuple [.Name x px, .Name y py] kt pt] (.Tuple [a, b] k2 pt2) pos) (tS κ W (sPar i j m)) := PS.imp (ps_par hc hN hi hj hij hx hy ha hw hs) fun D0 σ H ⟨G, env, r, q⟩ => sbind_post r q fun ds e1 vs H1 G1 _ r1 rv s1 f1 q1 => by
  match ds, rv, q1 with
  | [x, y], rv, q1 =>
    cases rv with
    | sh rx t =>
      cases t with
      | sh ry t2 =>
        cases t2
        dsimp only at q1
        by_cases hl : i < e1.length ∧ j < e1.length
        · rw [if_pos hl] at q1
          obtain ⟨ra, fa⟩ := rep_sh r1 hl.1 rx
          obtain ⟨rb, fb⟩ := rep_sh ra (i := j) (by rw [List.length_set]; exact hl.2) ry
          exact ⟨_, _, rfl, q1 _ H1 G1 rb (fa.trans fb)⟩
        · rw [if_neg hl] at q1; exact q1.elim
  | [], rv, q1 => exact q1.elim
  | [_], rv, q1 => exact q1.elim
  | _ :: _ :: _ :: _, rv, q1 => exact q1.elim
end
/-! ### what is walked, of any kind -/
theorem PI.or {X : Cx} {tg e : Expr} {w w' : TI} (h : PI X tg e w) (h' : PI X tg e w') : PI X tg e (fun σ H R => w σ H R ∨ w' σ H R) :=
  ⟨fun pins s σ H R I q => q.elim (h.run pins s σ H R I) (h'.run pins s σ H R I)⟩
theorem PI.imp {X : Cx} {tg e : Expr} {w w' : TI} (h : PI X tg e w) (k : ∀ σ H R, w' σ H R → w σ H R) : PI X tg e w' := ⟨fun pins s σ H R I q => h.run pins s σ H R I (k σ H R q)⟩
def itD : D → Option (List D)
  | .lst l => some l
  | .tup l => some l
  | .str w => some (w.map fun c => .str [c])
  | .scr l => some (l.map D.int)
  | _ => none
def fItA (m : Sm D) : Sm (List D) := bnd m fun d e => match itD d with
  | some l => some (.ok l e)
  | none => none
def eItA (i : Nat) : Sm (List D) := fun env => match env[i]? with
  | some (.sh d) => match itD d with
    | some l => some (.ok l env)
    | none => none
  | some (.lk l) => some (.ok l env)
  | some (.bo l) => some (.ok l env)
  | _ => none
section
variable {X : Cx} {κ : Kx} {W : WX} {e tg : Expr} {m : Sm D} {pos : Pos}
theorem sc_yields {σ : L2.St} {N : Addr → Prop} {H G : Hp} {env : En} {a : Addr} {ns : List Int} (h : SqL κ.K G a (ns.map V.int)) : RI κ σ N H G env (Itl κ.K a) (ns.map D.int) := by
  refine ⟨fun _ => False, fun _ z => z.elim, fun H' G' _ sg sh i => ?_⟩
  have hl : SqL κ.K H' a (ns.map V.int) := same_l sh (same_l sg h)
  refine ⟨fun d hd => ?_, fun hi => ⟨_, hl, by rw [List.length_map]; simpa using hi⟩⟩
  rw [List.getElem?_map] at hd
  cases hw : ns[i]? with
  | none => rw [hw] at hd; cases hd
  | some n =>
    rw [hw] at hd
    cases hd
    have hx : (ns.map V.int)[i]? = some (V.int n) := by rw [List.getElem?_map, hw]; rfl
    exact ⟨⟨_, _, hl, hx⟩, fun y H2 ⟨e2, hy⟩ => .inl ⟨e2, by
      have := hy _ hl
      rw [hx] at this
      cases this
      exact .int n⟩⟩
theorem i_scr (hK : X.K = κ.K) (h : PE X e (tX κ W (RP κ) m)) : PI X tg e (tX κ W (RI κ) (bnd m fun d e => match d with
    | .scr l => some (.ok (l.map D.int) e)
    | _ => none)) := ⟨fun pins s σ H R I ⟨G, env, r, q⟩ => (pi_list h).run pins s σ H R I (bind_post r q fun d e1 v H1 G1 em r1 rv s1 f1 q1 => by
  cases d with
  | scr l =>
    cases rv with
    | scr h3 =>
      refine ⟨_, rfl, ⟨l.map V.int, ?_⟩, ?_⟩
      · rw [hK]; exact same_l r1.sub h3
      · rw [hK]; exact q1 _ H1 G1 r1 (sc_yields h3) (Same.refl _) Fr.refl
  | _ => exact q1.elim)⟩
theorem i_any (hK : X.K = κ.K) (h : PE X e (tX κ W (RP κ) m)) : PI X tg e (tX κ W (RI κ) (fItA m)) :=
  PI.imp (PI.or (PI.or (i_list (l_of h)) (i_tup h)) (PI.or (i_str (v_bo h)) (i_scr hK h))) fun σ H R ⟨G, env, r, q⟩ => by
    unfold fItA bnd at q
    cases z : m env with
    | none => rw [z] at q; exact q.elim
    | some o => cases o with
      | ex x e1 =>
        rw [z] at q
        refine .inl (.inl ⟨G, env, r, ?_⟩)
        unfold fIt bnd
        rw [z]
        exact q
      | ok d e1 =>
        rw [z] at q
        cases d with
        | lst l =>
          refine .inl (.inl ⟨G, env, r, ?_⟩)
          unfold fIt bnd
          rw [z]
          exact q
        | tup l =>
          refine .inl (.inr ⟨G, env, r, ?_⟩)
          unfold fTp bnd
          rw [z]
          exact q
        | str l =>
          refine .inr (.inl ⟨G, env, r, ?_⟩)
          unfold fSg bnd
          rw [z]
          exact q
        | scr l =>
          refine .inr (.inr ⟨G, env, r, ?_⟩)
          unfold bnd
          rw [z]
          exact q
        | _ => exact q.elim
theorem i_anyN {i : Nat} {x : Str} (hK : X.K = κ.K) (h : PE X (.Name x pos) (tVar i)) : PI X tg (.Name x pos) (tX κ W (RI κ) (eItA i)) :=
  PI.imp (PI.or (i_list (l_name h)) (i_any hK (v_var h))) fun σ H R ⟨G, env, r, q⟩ => by
    unfold eItA at q
    cases z : env[i]? with
    | none => rw [z] at q; exact q.elim
    | some s =>
      rw [z] at q
      cases s with
      | un => exact q.elim
      | ow l => exact q.elim
      | lk l =>
        refine .inl ⟨G, env, r, ?_⟩
        unfold eIt
        rw [z]
        exact q
      | bo l =>
        refine .inl ⟨G, env, r, ?_⟩
        unfold eIt
        rw [z]
        exact q
      | sh d =>
        refine .inr ⟨G, env, r, ?_⟩
        unfold fItA bnd eV
        rw [z]
        exact q
end
end Vs

set_option Elab.async false
set_option linter.all false
set_option maxRecDepth 100000
set_option maxHeartbeats 4000000
/-! Vm: plain lemmas about the functions that the reading gives. -/
namespace Vs
open PySem L2
theorem rng_len (lo : Int) (n : Nat) : (rng lo n).length = n := by simp [rng]
theorem rng_get {lo : Int} {n i : Nat} {d : D} (h : (rng lo n)[i]? = some d) : i < n ∧ d = .int (lo + (i : Int)) := by
  have hi : i < (rng lo n).length := (List.getElem?_eq_some_iff.mp h).1
  rw [rng_len] at hi
  unfold rng at h
  rw [List.getElem?_map, List.getElem?_range hi] at h
  cases h
  exact ⟨hi, rfl⟩
/-- a loop that may be left early -/
theorem forL_out {tg : D → En → Option En} {body : Ss} (P : Nat → En → Prop) (R : SO → Prop) : ∀ (ds : List D) (k : Nat) (e : En), P k e →
    (∀ i d e, ds[i]? = some d → P (k + i) e → ∃ e1, tg d e = some e1 ∧ ∃ o, body e1 = some o ∧ match o with
      | .nx e2 => P (k + i + 1) e2
      | .ct e2 => P (k + i + 1) e2
      | .bk e2 => R (.nx e2)
      | o => R o) → (∀ e, P (k + ds.length) e → R (.nx e)) → ∃ o, forL tg body ds e = some o ∧ R o
  | [], k, e, h, _, hd => ⟨_, rfl, hd e h⟩
  | d :: ds, k, e, h, hs, hd => by
    obtain ⟨e1, h1, o, h2, h3⟩ := hs 0 d e rfl h
    have step : ∀ e2, P (k + 1) e2 → ∃ o, forL tg body ds e2 = some o ∧ R o := fun e2 h4 =>
      forL_out P R ds (k + 1) e2 h4 (fun i d' e' q p => by
        have := hs (i + 1) d' e' (by simpa using q) (by rw [show k + (i + 1) = k + 1 + i by omega]; exact p)
        rw [show k + (i + 1) = k + 1 + i by omega] at this
        exact this) fun e' p => hd e' (by rw [List.length_cons, show k + (ds.length + 1) = k + 1 + ds.length by omega]; exact p)
    dsimp only [forL]
    rw [h1]
    dsimp only
    rw [h2]
    cases o with
    | nx e2 => exact step e2 h3
    | ct e2 => exact step e2 h3
    | bk e2 => exact ⟨_, rfl, h3⟩
    | rt r => exact ⟨_, rfl, h3⟩
    | ex x e2 => exact ⟨_, rfl, h3⟩
/-- a loop that runs through -/
theorem forL_inv {tg : D → En → Option En} {body : Ss} (P : Nat → En → Prop) (ds : List D) (e : En) (h : P 0 e)
    (hs : ∀ i d e, ds[i]? = some d → P i e → ∃ e1, tg d e = some e1 ∧ ∃ e2, body e1 = some (.nx e2) ∧ P (i + 1) e2) : ∃ e', forL tg body ds e = some (.nx e') ∧ P ds.length e' := by
  obtain ⟨o, h1, e', h2, h3⟩ := forL_out P (fun o => ∃ e', o = .nx e' ∧ P ds.length e') ds 0 e h (fun i d e q p => by
    obtain ⟨e1, g1, e2, g2, g3⟩ := hs i d e q (by simpa using p)
    exact ⟨e1, g1, _, g2, by simpa using g3⟩) fun e p => ⟨e, rfl, by simpa using p⟩
  subst h2
  exact ⟨e', h1, h3⟩
/-- a while by a number that falls -/
theorem whL_out {t : Sm Bool} {body : Ss} (P : Nat → En → Prop) (R : SO → Prop)
    (hs : ∀ m e, P m e → (∃ e1, t e = some (.ok false e1) ∧ R (.nx e1)) ∨ ∃ e1, t e = some (.ok true e1) ∧ ∃ o, body e1 = some o ∧ match o with
      | .nx e2 => ∃ m', m' < m ∧ P m' e2
      | .ct e2 => ∃ m', m' < m ∧ P m' e2
      | .bk e2 => R (.nx e2)
      | o => R o) : ∀ (n m : Nat) (e : En), m < n → P m e → ∃ o, whL n t body e = some o ∧ R o
  | 0, m, e, h, _ => absurd h (Nat.not_lt_zero _)
  | n + 1, m, e, h, p => by
    rcases hs m e p with ⟨e1, h1, h2⟩ | ⟨e1, h1, o, h2, h3⟩
    · refine ⟨.nx e1, ?_, h2⟩
      dsimp only [whL, sbnd]
      rw [h1]
    · have run : ∀ o', (match o with
        | .nx e2 => whL n t body e2
        | .ct e2 => whL n t body e2
        | .bk e2 => some (.nx e2)
        | o => some o) = some o' → whL (n + 1) t body e = some o' := fun o' q => by
        dsimp only [whL, sbnd]
        rw [h1]
        dsimp only
        rw [h2]
        cases o <;> exact q
      cases o with
      | nx e2 =>
        obtain ⟨m', g1, g2⟩ := h3
        obtain ⟨o', g3, g4⟩ := whL_out P R hs n m' e2 (by omega) g2
        exact ⟨o', run o' g3, g4⟩
      | ct e2 =>
        obtain ⟨m', g1, g2⟩ := h3
        obtain ⟨o', g3, g4⟩ := whL_out P R hs n m' e2 (by omega) g2
        exact ⟨o', run o' g3, g4⟩
      | bk e2 => exact ⟨_, run _ rfl, h3⟩
      | rt r => exact ⟨_, run _ rfl, h3⟩
      | ex x e2 => exact ⟨_, run _ rfl, h3⟩
theorem atI_of {α : Type} (l : List α) {i : Int} (h : 0 ≤ i) : atI l i = l[i.toNat]? := by
  unfold atI ixN
  rw [if_pos h]
  by_cases q : i < l.length
  · rw [if_pos q]
    rfl
  · rw [if_neg q]
    symm
    show l[i.toNat]? = none
    rw [List.getElem?_eq_none_iff]
    omega
theorem sIx_pos (n d : Nat) {i : Int} (h : 0 ≤ i) : HT.sIx n d (some i) = min i.toNat n := by
  show (if i < 0 then (i + (n : Int)).toNat else min i.toNat n) = min i.toNat n
  rw [if_neg (by omega)]
theorem cutL_take {α : Type} (l : List α) {i : Int} (h : 0 ≤ i) : cutL l none (some i) = l.take i.toNat := by
  unfold cutL
  rw [HT.sIx_none, sIx_pos _ _ h, List.drop_zero, Nat.sub_zero]
  by_cases q : i.toNat ≤ l.length
  · rw [Nat.min_eq_left q]
  · rw [Nat.min_eq_right (by omega), List.take_length, List.take_of_length_le (by omega)]
theorem cutL_drop {α : Type} (l : List α) {i : Int} (h : 0 ≤ i) : cutL l (some i) none = l.drop i.toNat := by
  unfold cutL
  rw [HT.sIx_none, sIx_pos _ _ h]
  by_cases q : i.toNat ≤ l.length
  · rw [Nat.min_eq_left q, List.take_of_length_le (by rw [List.length_drop]; omega)]
  · rw [Nat.min_eq_right (by omega), List.drop_length, List.drop_of_length_le (by omega)]
    simp
theorem cutL_mid {α : Type} (l : List α) {i j : Int} (h : 0 ≤ i) (h2 : 0 ≤ j) : cutL l (some i) (some j) = (l.drop i.toNat).take (j.toNat - i.toNat) := by
  unfold cutL
  rw [sIx_pos _ _ h, sIx_pos _ _ h2]
  by_cases q : i.toNat ≤ l.length
  · rw [Nat.min_eq_left q]
    by_cases q2 : j.toNat ≤ l.length
    · rw [Nat.min_eq_left q2]
    · rw [Nat.min_eq_right (show l.length ≤ j.toNat by omega), List.take_of_length_le (by rw [List.length_drop]; omega), List.take_of_length_le (by rw [List.length_drop]; omega)]
  · rw [Nat.min_eq_right (show l.length ≤ i.toNat by omega), List.drop_length, List.drop_of_length_le (by omega)]
    simp
theorem bits_ok {i : Int} {j : Int} (h : Builtin.Int.intBits i ≤ 1048577) (hj : Builtin.Int.intBits j ≤ 1000000) : Builtin.Int.intBits i + Builtin.Int.intBits j ≤ 134217728 := by omega
/-- lists of whole numbers compared -/
theorem eqv_ints : ∀ a b : List Int, PyData.eqvAll (toPA (a.map D.int)) (toPA (b.map D.int)) = decide (a = b)
  | [], [] => by simp [toPA, PyData.eqvAll]
  | [], y :: b => by simp [toPA, PyData.eqvAll]
  | x :: a, [] => by simp [toPA, PyData.eqvAll]
  | x :: a, y :: b => by
    have ih := eqv_ints a b
    simp only [List.map_cons, toPA, D.toP, PyData.eqvAll, PyData.eqv, ih]
    by_cases h : x = y
    · subst h
      by_cases h2 : a = b <;> simp [h2]
    · simp [h]
theorem plA_ints : ∀ a : List Int, plA (a.map D.int) = true
  | [] => rfl
  | x :: a => by simp only [List.map_cons, plA, D.pl, plA_ints a, Bool.and_self]
theorem dep_ints : ∀ a : List Int, PyData.depthAll (toPA (a.map D.int)) = 0
  | [] => by simp [toPA, PyData.depthAll]
  | x :: a => by simp only [List.map_cons, toPA, D.toP, PyData.depthAll, PyData.depth, dep_ints a]; rfl
theorem okE_ints (a : List Int) : (D.lst (a.map D.int)).okE = true := by
  unfold D.okE
  simp only [D.pl, plA_ints, D.toP, PyData.depth, dep_ints]
  decide
theorem cEq_ints (a b : List Int) : cEq (.lst (a.map D.int)) (.lst (b.map D.int)) = some (decide (a = b)) := by
  show (if (D.lst (a.map D.int)).okE = true ∧ (D.lst (b.map D.int)).okE = true then some (PyData.eqv (D.lst (a.map D.int)).toP (D.lst (b.map D.int)).toP) else none) = _
  rw [if_pos ⟨okE_ints a, okE_ints b⟩]
  simp only [D.toP, PyData.eqv, eqv_ints]
theorem cNe_ints (a b : List Int) : cNe (.lst (a.map D.int)) (.lst (b.map D.int)) = some (!decide (a = b)) := by
  unfold cNe
  rw [cEq_ints]
/-- a comprehension that runs through -/
theorem lcL_fm {f : D → En → Option En} {tt : Sm Bool} {te : Sm D} {vs : List Nat} (P : En → Prop) (g : D → Option D) : ∀ (ds acc : List D) (e : En), P e →
    (∀ d e, d ∈ ds → P e → ∃ e1, f d e = some e1 ∧ ((∃ e2, tt e1 = some (.ok false e2) ∧ g d = none ∧ P (unE vs e2)) ∨ ∃ e2 y e3, tt e1 = some (.ok true e2) ∧ te e2 = some (.ok y e3) ∧ g d = some y ∧ P (unE vs e3))) →
    ∃ e', lcL f tt te vs ds acc e = some (.ok (.ow (acc ++ ds.filterMap g)) e') ∧ P e'
  | [], acc, e, h, _ => ⟨e, by dsimp only [lcL]; rw [List.filterMap_nil, List.append_nil], h⟩
  | d :: ds, acc, e, h, hs => by
    have rest := fun acc e h => lcL_fm P g ds acc e h fun d e m => hs d e (List.mem_cons_of_mem _ m)
    obtain ⟨e1, h1, ⟨e2, h2, h3, h4⟩ | ⟨e2, y, e3, h2, h3, h4, h5⟩⟩ := hs d e List.mem_cons_self h
    · dsimp only [lcL]
      rw [h1]
      dsimp only
      rw [h2]
      obtain ⟨e', r1, r2⟩ := rest acc _ h4
      exact ⟨e', by rw [List.filterMap_cons_none h3]; exact r1, r2⟩
    · dsimp only [lcL]
      rw [h1]
      dsimp only
      rw [h2]
      dsimp only
      rw [h3]
      obtain ⟨e', r1, r2⟩ := rest (acc ++ [y]) _ h5
      exact ⟨e', by rw [List.filterMap_cons_some h4]; rw [List.append_assoc] at r1; exact r1, r2⟩
/-- .. without a test, one item for each -/
theorem lcL_map {f : D → En → Option En} {te : Sm D} {vs : List Nat} (P : En → Prop) (g : D → D) (ds acc : List D) (e : En) (h : P e)
    (hs : ∀ d e, d ∈ ds → P e → ∃ e1, f d e = some e1 ∧ ∃ e3, te e1 = some (.ok (g d) e3) ∧ P (unE vs e3)) :
    ∃ e', lcL f tYs te vs ds acc e = some (.ok (.ow (acc ++ ds.map g)) e') ∧ P e' := by
  obtain ⟨e', h1, h2⟩ := lcL_fm (f := f) (tt := tYs) (te := te) (vs := vs) P (fun d => some (g d)) ds acc e h fun d e m p => by
    obtain ⟨e1, g1, e3, g2, g3⟩ := hs d e m p
    exact ⟨e1, g1, .inr ⟨e1, g d, e3, rfl, g2, rfl, g3⟩⟩
  rw [List.filterMap_eq_map'] at h1
  exact ⟨e', h1, h2⟩
theorem alike_ints : ∀ a b : List Int, PySem.W.alikeAll (toPA (a.map D.int)) (toPA (b.map D.int)) = true
  | [], _ => by simp [toPA, PySem.W.alikeAll]
  | _ :: _, [] => by simp [toPA, PySem.W.alikeAll]
  | x :: a, y :: b => by simp only [List.map_cons, toPA, D.toP, PySem.W.alikeAll, PySem.W.alike, alike_ints a b, Bool.and_self]
theorem cLtA_ints (a b : List Int) : cLtA (.lst (a.map D.int)) (.lst (b.map D.int)) = some (PySem.W.dataLt (D.lst (a.map D.int)).toP (D.lst (b.map D.int)).toP) := by
  show dLt _ _ = _
  unfold dLt
  rw [if_pos]
  refine ⟨by simp only [D.pl, plA_ints], by simp only [D.pl, plA_ints], ?_, ?_⟩
  · simp only [D.toP, PySem.W.alike, alike_ints]
  · simp only [D.toP, PyData.depth, dep_ints]
    decide
mutual
theorem eqv_self : ∀ d : D, PyData.eqv d.toP d.toP = true
  | .non => by simp [D.toP, PyData.eqv]
  | .bl b => by simp [D.toP, PyData.eqv]
  | .int i => by simp [D.toP, PyData.eqv]
  | .str w => by simp [D.toP, PyData.eqv]
  | .lst l => by simp only [D.toP, PyData.eqv, eqvA_self l]
  | .tup l => by simp only [D.toP, PyData.eqv, eqvA_self l]
  | .ob _ _ => by simp [D.toP, PyData.eqv]
  | .scr _ => by simp [D.toP, PyData.eqv]
  | .xn _ _ => by simp [D.toP, PyData.eqv]
theorem eqvA_self : ∀ l : List D, PyData.eqvAll (toPA l) (toPA l) = true
  | [] => by simp [toPA, PyData.eqvAll]
  | d :: l => by simp only [toPA, PyData.eqvAll, eqv_self d, eqvA_self l, Bool.and_self]
end
theorem cEq_self {l : List D} (h : (D.lst l).okE = true) : cEq (.lst l) (.lst l) = some true := by
  show (if (D.lst l).okE = true ∧ (D.lst l).okE = true then some (PyData.eqv (D.lst l).toP (D.lst l).toP) else none) = _
  rw [if_pos ⟨h, h⟩, eqv_self]
theorem cNe_self {l : List D} (h : (D.lst l).okE = true) : cNe (.lst l) (.lst l) = some false := by
  unfold cNe
  rw [cEq_self h]
  rfl
end Vs

set_option Elab.async false
set_option linter.all false
set_option maxRecDepth 100000
set_option maxHeartbeats 4000000
namespace Lw
open PySem L2 Vs
noncomputable section
abbrev fuel : Nat := 100000
def xs : Nat → Nat → Option Bool
  | 0, 0 => some true
  | 1, 0 => some true
  | 2, 0 => some true
  | _, _ => none
def ks : Nat → Nat → Option Bool
  | 0, 1 => some false
  | 0, 1000 => some true
  | 0, 2 => some false
  | 1, 1 => some true
  | 1, 1000 => some true
  | 1, 2 => some false
  | 2, 1 => some false
  | 2, 1000 => some true
  | 2, 2 => some true
  | _, _ => none
def xf : Nat → Option Str
  | _ => none
def i1_tables_within : Ss := sIf (fOp cGt (eB 2) (eC (.int 1000))) (sRet (shm (eC (.bl false)))) (sNil)
def l1_tables_within : Ss := sSeq (sAsg 2 (fOp opMul (eB 2) (eB 1))) (i1_tables_within)
def b_tables_within : Ss := sSeq (sAsg 2 (shm (eC (.int 1)))) (sSeq (sFor (fRg1 (aCons (frz (fOp opMul (eB 1) (frz (fCl opLen (aCons (eB 0) (aNil)))))) (aNil))) (tgN 3) l1_tables_within) (sRet (shm (eC (.bl true)))))
def g_tables_within : FSem := runDef [true, true] 2 b_tables_within
def i1_next_cells : Ss := sIf (fOp cLtA (fOp opIx (eB 2) (eB 3)) (eB 1)) (sRetV 2) (sNil)
def l1_next_cells : Ss := sSeq (sSetI 2 (eB 3) (frz (fOp opAdd (fOp opIx (eB 2) (eB 3)) (eC (.int 1))))) (sSeq (i1_next_cells) (sSetI 2 (eB 3) (eC (.int 0))))
def b_next_cells : Ss := sSeq (sAsg 2 (fCl opList (aCons (eB 0) (aNil)))) (sSeq (sFor (fRr1 (frz (fCl opLen (aCons (eB 0) (aNil))))) (tgN 3) l1_next_cells) (sRet (shm (eC .non))))
def g_next_cells : FSem := runDef [true, true] 2 b_next_cells
def b_places_of : Ss := sRet (xLock 1 (fLc (eItA 1) (tgN 2) (tYs) (frz (fM1 opFind (eB 0) (eB 2))) [2]))
def g_places_of : FSem := runDef [true, true] 1 b_places_of
def l1_end_of : Ss := sAsg 2 (shm (fOp opIx (eB 0) (frz (fOp opAdd (frz (fOp opMul (eB 2) (eB 1))) (eB 4)))))
def b_end_of : Ss := sSeq (sLock 3 (sFor (eItA 3) (tgN 4) l1_end_of)) (sRetV 2)
def g_end_of : FSem := runDef [true, true, false, true] 1 b_end_of
def i1_keeps : Ss := sIf (fOp cNe (frz (fCall g_end_of (aCons (eB 0) (aCons (eB 1) (aCons (eV 6) (aCons (eB 4) (aNil))))))) (frz (fCall g_end_of (aCons (eB 0) (aCons (eB 1) (aCons (eV 6) (aCons (eB 5) (aNil)))))))) (sRet (shm (eC (.bl false)))) (sNil)
def l1_keeps : Ss := i1_keeps
def l2_keeps : Ss := sFor (fRg1 (aCons (eB 2) (aNil))) (tgN 6) l1_keeps
def b_keeps : Ss := sSeq (sLock 3 (sFor (eItA 3) (tgT [4, 5]) l2_keeps)) (sRet (shm (eC (.bl true))))
def g_keeps : FSem := runDef [true, true, true, true] 3 b_keeps
def i1_first_table : Ss := sIf (fTru (frz (fCall g_keeps (aCons (eB 5) (aCons (eB 1) (aCons (eB 0) (aCons (eB 2) (aNil)))))))) (sRet (fLc (fRg1 (aCons (eB 0) (aNil))) (tgN 6) (tYs) (frz (fSl (eB 5) (poS (frz (fOp opMul (eB 6) (eB 1)))) (poS (frz (fOp opAdd (frz (fOp opMul (eB 6) (eB 1))) (eB 1)))))) [6])) (sNil)
def i2_first_table : Ss := sIf (fOp cNe (frz (fCall g_end_of (aCons (eB 5) (aCons (eB 1) (aCons (eC (.int 0)) (aCons (eB 3) (aNil))))))) (frz (fCall g_end_of (aCons (eB 5) (aCons (eB 1) (aCons (eC (.int 0)) (aCons (eB 4) (aNil)))))))) (i1_first_table) (sNil)
def l1_first_table : Ss := sSeq (i2_first_table) (sAsg 5 (fCall g_next_cells (aCons (eB 5) (aCons (eB 0) (aNil)))))
def w1_first_table : Sm Bool := fOp cNotN (eB 5) (eC .non)
def b_first_table : Ss := sSeq (sAsg 5 (fOp opMul (frz (fLst (aCons (eC (.int 0)) (aNil)))) (frz (fOp opMul (eB 0) (eB 1))))) (sSeq (whL fuel w1_first_table l1_first_table) (sRet (shm (eC .non))))
def g_first_table : FSem := runDef [true, true, true, true, true] 2 b_first_table
def i1_world_apart : Ss := sIf (fNot (fTru (frz (fCall g_tables_within (aCons (eB 0) (aCons (eB 4) (aNil))))))) (fRaise0 2) (sNil)
def i2_world_apart : Ss := sIf (fOp cNotN (eB 7) (eC .non)) (sRetV 7) (sNil)
def l1_world_apart : Ss := sSeq (sAsg 7 (fCall g_first_table (aCons (eB 6) (aCons (frz (fCl opLen (aCons (eB 0) (aNil)))) (aCons (eB 5) (aCons (frz (fCall g_places_of (aCons (eB 0) (aCons (eB 2) (aNil))))) (aCons (frz (fCall g_places_of (aCons (eB 0) (aCons (eB 3) (aNil))))) (aNil)))))))) (i2_world_apart)
def b_world_apart : Ss := sSeq (i1_world_apart) (sSeq (sAsg 5 (xLock 1 (fLc (eItA 1) (tgN 8) (tYs) (fTup (aCons (frz (fCall g_places_of (aCons (eB 0) (aCons (fOp opIx (eB 8) (eC (.int 0))) (aNil))))) (aCons (frz (fCall g_places_of (aCons (eB 0) (aCons (fOp opIx (eB 8) (eC (.int 1))) (aNil))))) (aNil)))) [8]))) (sSeq (sFor (fRg2 (aCons (eC (.int 1)) (aCons (frz (fOp opAdd (eB 4) (eC (.int 1)))) (aNil)))) (tgN 6) l1_world_apart) (sRet (shm (eC .non)))))
def g_world_apart : FSem := runDef [true, true, true, true, true] 4 b_world_apart
def i1_law_cell_at : Ss := sIf (fOp cLtA (eB 1) (frz (fCl opLen (aCons (eB 0) (aNil))))) (sRet (fOp opMod (fOp opIx (eB 0) (eB 1)) (frz (fOp opPow (eC (.int 10)) (eC (.int 15)))))) (sNil)
def b_law_cell_at : Ss := sSeq (i1_law_cell_at) (sRet (shm (eC (.int 0))))
def g_law_cell_at : FSem := runDef [true, true] 0 b_law_cell_at
def l1_law_letters : Ss := sSeq (sAsg 5 (fOp opMod (eB 0) (frz (fCl opLen (aCons (eB 2) (aNil)))))) (sSeq (sAsg 0 (fOp opDiv (eB 0) (frz (fCl opLen (aCons (eB 2) (aNil)))))) (sSeq (sAsg 3 (fOp opAdd (eB 3) (fOp opIx (eB 2) (eB 5)))) (sAsg 2 (fOp opAdd (frz (fSl (eB 2) (poN) (poS (eB 5)))) (frz (fSl (eB 2) (poS (frz (fOp opAdd (eB 5) (eC (.int 1))))) (poN)))))))
def b_law_letters : Ss := sSeq (sAsg 2 (shm (eC (.str [97, 98, 99, 100, 101, 102, 103, 104, 105, 106, 107, 108, 109, 110, 111, 112, 113, 114, 115, 116, 117, 118, 119, 120, 121, 122])))) (sSeq (sAsg 3 (shm (eC (.str [])))) (sSeq (sFor (fRg1 (aCons (eB 1) (aNil))) (tgN 4) l1_law_letters) (sRetV 3)))
def g_law_letters : FSem := runDef [true, true] 4 b_law_letters
def l1_law_word : Ss := sSeq (sAsg 3 (fOp opAdd (eB 3) (fOp opIx (eB 0) (frz (fOp opMod (eB 1) (frz (fCl opLen (aCons (eB 0) (aNil))))))))) (sAsg 1 (fOp opDiv (eB 1) (frz (fCl opLen (aCons (eB 0) (aNil))))))
def b_law_word : Ss := sSeq (sAsg 3 (shm (eC (.str [])))) (sSeq (sFor (fRg1 (aCons (eB 2) (aNil))) (tgN 4) l1_law_word) (sRetV 3))
def g_law_word : FSem := runDef [true, true, true] 2 b_law_word
def l1_law_within : Ss := sAsg 2 (fOp opMul (eB 2) (eB 0))
def b_law_within : Ss := sSeq (sAsg 2 (shm (eC (.int 1)))) (sSeq (sFor (fRg1 (aCons (frz (fOp opMul (eB 0) (eB 1))) (aNil))) (tgN 3) l1_law_within) (sRet (shm (fOp (vB cLe) (eB 2) (eC (.int 1000))))))
def g_law_within : FSem := runDef [true, true] 2 b_law_within
def y1_law_refused : Ss := sDrop (fCall g_world_apart (aCons (eB 0) (aCons (eB 1) (aCons (eB 2) (aCons (eB 3) (aCons (eB 4) (aNil)))))))
def z1_law_refused : Xo → Ss := fun o => sAsg 5 (shm (fAndV (fXi (fun c => ks c 2) o 6) (fAndV (fXi (fun c => ks c 1000) o 6) (fNotV (fXi (fun c => ks c 1) o 6)))))
def b_law_refused : Ss := sSeq (sAsg 5 (shm (eC (.bl false)))) (sSeq (sTryAs xs 0 6 y1_law_refused z1_law_refused) (sRetV 5))
def g_law_refused : FSem := runDef [true, true, true, true, true] 2 b_law_refused
def i1_law : Ss := sIf (fOp cEq (frz (fOp opMod (frz (fOp opDiv (eB 1) (eC (.int 48)))) (eC (.int 2)))) (eC (.int 1))) (sTg (tgT [3, 2]) (fOp opIx (frz (fLst (aCons (fTup (aCons (eC (.int 3)) (aCons (eC (.int 2)) (aNil)))) (aCons (fTup (aCons (eC (.int 2)) (aCons (eC (.int 5)) (aNil)))) (aCons (fTup (aCons (eC (.int 2)) (aCons (eC (.int 4)) (aNil)))) (aCons (fTup (aCons (eC (.int 4)) (aCons (eC (.int 1)) (aNil)))) (aCons (fTup (aCons (eC (.int 5)) (aCons (eC (.int 1)) (aNil)))) (aCons (fTup (aCons (eC (.int 2)) (aCons (eC (.int 6)) (aNil)))) (aCons (fTup (aCons (eC (.int 3)) (aCons (eC (.int 3)) (aNil)))) (aNil)))))))))) (frz (fOp opMod (frz (fOp opDiv (eB 1) (eC (.int 96)))) (eC (.int 7)))))) (sNil)
def i2_law : Ss := sIf (fOr (fNot (fTru (fIsi (eB 6) .bool))) (fOp cNe (eB 6) (eB 5))) (sRet (shm (eC (.bl false)))) (sNil)
def i3_law : Ss := sIf (fTru (eB 5)) (sSeq (sAsg 11 (shm (fOp opIx (frz (fLst (aCons (frz (fLst (aNil))) (aCons (frz (fLst (aCons (eV 9) (aNil)))) (aNil))))) (frz (fOp opMod (frz (fOp opDiv (eB 7) (eC (.int 12)))) (eC (.int 2))))))) (sRet (shm (fOp (vB cIsN) (frz (fCall g_world_apart (aCons (eB 4) (aCons (eB 11) (aCons (eB 8) (aCons (eB 8) (aCons (eB 3) (aNil)))))))) (eC .non))))) (sNil)
def i4_law : Ss := sIf (fOp cEq (frz (fOp opMod (frz (fOp opDiv (eB 7) (eC (.int 12)))) (eC (.int 2)))) (eC (.int 1))) (sAsg 10 (fCall g_law_word (aCons (eB 4) (aCons (frz (fOp opMod (frz (fOp opMul (eB 7) (eC (.int 69621)))) (eC (.int 999983)))) (aCons (frz (fOp opMod (frz (fOp opDiv (eB 7) (eC (.int 24)))) (eC (.int 4)))) (aNil)))))) (sNil)
def b_law : Ss := sSeq (sAsg 1 (fCall g_law_cell_at (aCons (eB 0) (aCons (eC (.int 0)) (aNil))))) (sSeq (sAsg 2 (fOp opAdd (eC (.int 1)) (frz (fOp opMod (eB 1) (eC (.int 6)))))) (sSeq (sAsg 3 (fOp opAdd (eC (.int 1)) (frz (fOp opMod (frz (fOp opDiv (eB 1) (eC (.int 6)))) (eC (.int 8)))))) (sSeq (i1_law) (sSeq (sAsg 4 (fCall g_law_letters (aCons (frz (fOp opDiv (eB 1) (eC (.int 672)))) (aCons (eB 2) (aNil))))) (sSeq (sAsg 5 (fCall g_law_within (aCons (eB 3) (aCons (frz (fCl opLen (aCons (eB 4) (aNil)))) (aNil))))) (sSeq (sAsg 6 (fCall g_tables_within (aCons (eB 4) (aCons (eB 3) (aNil))))) (sSeq (i2_law) (sSeq (sAsg 7 (fCall g_law_cell_at (aCons (eB 0) (aCons (eC (.int 1)) (aNil))))) (sSeq (sAsg 8 (fCall g_law_word (aCons (eB 4) (aCons (frz (fOp opMod (frz (fOp opMul (eB 7) (eC (.int 48271)))) (eC (.int 1000003)))) (aCons (frz (fOp opMod (eB 7) (eC (.int 4)))) (aNil)))))) (sSeq (sAsg 9 (shm (fTup (aCons (frz (fCall g_law_word (aCons (eB 4) (aCons (frz (fOp opMod (frz (fOp opMul (eB 7) (eC (.int 69621)))) (eC (.int 999983)))) (aCons (frz (fOp opMod (frz (fOp opDiv (eB 7) (eC (.int 4)))) (eC (.int 3)))) (aNil)))))) (aCons (fOp opIx (eB 4) (frz (fOp opMod (eB 7) (frz (fCl opLen (aCons (eB 4) (aNil))))))) (aNil)))))) (sSeq (i3_law) (sSeq (sAsg 10 (shm (eV 8))) (sSeq (i4_law) (sRet (shm (fAndV (frz (fCall g_law_refused (aCons (eB 4) (aCons (frz (fLst (aNil))) (aCons (eB 8) (aCons (eB 10) (aCons (eB 3) (aNil)))))))) (frz (fCall g_law_refused (aCons (eB 4) (aCons (frz (fLst (aCons (eV 9) (aNil)))) (aCons (eB 8) (aCons (eB 10) (aCons (eB 3) (aNil))))))))))))))))))))))))
def g_law : FSem := runDef [true] 11 b_law
end
end Lw

set_option Elab.async false
set_option linter.all false
set_option maxRecDepth 100000
set_option maxHeartbeats 4000000
namespace Lw
open PySem L2 Vs
/-! the cells of the script, below 10 ** 15 -/
def cell (ns : List Int) (k : Nat) : Int := ns.getD k 0
def c15 (ns : List Int) (k : Nat) : Int := cell ns k % 1000000000000000
theorem p15 : (0 : Int) ≤ 15 ∧ (15 : Int) ≤ 1000 ∧ (0 : Int) ≤ 10 ∧ (10 : Int) ≤ 1000000 := by decide
theorem e15 : (10 : Int) ^ (Int.toNat 15) = 1000000000000000 := by decide
theorem e_cell (ns : List Int) (k : Nat) : g_law_cell_at [.scr ns, .int (k : Int)] = some (.rt (.sh (.int (c15 ns k)))) := by
  unfold g_law_cell_at b_law_cell_at
  simp only [runDef, cInA, cNinA, inD, itD, fItA, eItA, cLtA, fRr1, fRr2, opInt, sPar, fCallD, fRaise0, fRaise1, sTryAs, sTry, aftr, noX, allEq_const, fXf, fXi, fLc, lcL, unE, tYs, Vs.ret, xLock, inis, bof, sNil, sSeq, sAsg, sRet, sRetV, sRetN, sIf, sDrop, sTg, sFor, sBrk, sCnt, sApp, sExt, sOwn, sSetI, opSetI, sLock, unlk, sbnd, bnd, fOp, fCh, fCl, fCall, fLst, fTup, fSl, fIf, fAnd, fOr, fNot, fTru, fAndV, fOrV, fNotV, fNeg, fIsi, fM1, fM2, fRg1, fRg2, fEn, fRev, fSg, fTp, fIt, eIt, eB, eV, eC, frz, shm, aCons, aNil, poN, poS, Rs.d, Rs.sl, vB, List.cons_append, List.nil_append, List.append_nil, List.replicate_zero, List.replicate_succ, List.getElem?_cons_zero, List.getElem?_cons_succ, List.set_cons_zero, List.set_cons_succ, List.length_cons, List.length_nil, opLen, lenD, opList, opAdd, opSub, opMul, opMod, opDiv, opPow, opMin, opMax, opIx, opSl, cmpB, cEq, cNe, cIsN, cNotN, truD, tgN, tgT, setAll, isKd, opFind, opFind3, opStarts, opStarts3, Nat.reduceLT, Nat.reduceAdd, Nat.reduceSub, Nat.reduceLeDiff, Int.reduceLT, Int.reduceLE, Int.reduceNeg, reduceIte, and_self, true_and, and_true, decide_true, decide_false, Int.toNat_natCast, i1_law_cell_at, p15, e15, show (0 : Int) < 1000000000000000 by decide]
  by_cases h : k < ns.length
  · have h2 : (k : Int) < (ns.length : Int) := by omega
    simp only [runDef, cInA, cNinA, inD, itD, fItA, eItA, cLtA, fRr1, fRr2, opInt, sPar, fCallD, fRaise0, fRaise1, sTryAs, sTry, aftr, noX, allEq_const, fXf, fXi, fLc, lcL, unE, tYs, Vs.ret, xLock, inis, bof, sNil, sSeq, sAsg, sRet, sRetV, sRetN, sIf, sDrop, sTg, sFor, sBrk, sCnt, sApp, sExt, sOwn, sSetI, opSetI, sLock, unlk, sbnd, bnd, fOp, fCh, fCl, fCall, fLst, fTup, fSl, fIf, fAnd, fOr, fNot, fTru, fAndV, fOrV, fNotV, fNeg, fIsi, fM1, fM2, fRg1, fRg2, fEn, fRev, fSg, fTp, fIt, eIt, eB, eV, eC, frz, shm, aCons, aNil, poN, poS, Rs.d, Rs.sl, vB, List.cons_append, List.nil_append, List.append_nil, List.replicate_zero, List.replicate_succ, List.getElem?_cons_zero, List.getElem?_cons_succ, List.set_cons_zero, List.set_cons_succ, List.length_cons, List.length_nil, opLen, lenD, opList, opAdd, opSub, opMul, opMod, opDiv, opPow, opMin, opMax, opIx, opSl, cmpB, cEq, cNe, cIsN, cNotN, truD, tgN, tgT, setAll, isKd, opFind, opFind3, opStarts, opStarts3, Nat.reduceLT, Nat.reduceAdd, Nat.reduceSub, Nat.reduceLeDiff, Int.reduceLT, Int.reduceLE, Int.reduceNeg, reduceIte, and_self, true_and, and_true, decide_true, decide_false, Int.toNat_natCast, decide_eq_true h2, atI_of ns (Int.natCast_nonneg k), List.getElem?_eq_getElem h, c15, cell, List.getD_eq_getElem?_getD, Option.getD_some]
  · have h2 : ¬ (k : Int) < (ns.length : Int) := by omega
    simp only [runDef, cInA, cNinA, inD, itD, fItA, eItA, cLtA, fRr1, fRr2, opInt, sPar, fCallD, fRaise0, fRaise1, sTryAs, sTry, aftr, noX, allEq_const, fXf, fXi, fLc, lcL, unE, tYs, Vs.ret, xLock, inis, bof, sNil, sSeq, sAsg, sRet, sRetV, sRetN, sIf, sDrop, sTg, sFor, sBrk, sCnt, sApp, sExt, sOwn, sSetI, opSetI, sLock, unlk, sbnd, bnd, fOp, fCh, fCl, fCall, fLst, fTup, fSl, fIf, fAnd, fOr, fNot, fTru, fAndV, fOrV, fNotV, fNeg, fIsi, fM1, fM2, fRg1, fRg2, fEn, fRev, fSg, fTp, fIt, eIt, eB, eV, eC, frz, shm, aCons, aNil, poN, poS, Rs.d, Rs.sl, vB, List.cons_append, List.nil_append, List.append_nil, List.replicate_zero, List.replicate_succ, List.getElem?_cons_zero, List.getElem?_cons_succ, List.set_cons_zero, List.set_cons_succ, List.length_cons, List.length_nil, opLen, lenD, opList, opAdd, opSub, opMul, opMod, opDiv, opPow, opMin, opMax, opIx, opSl, cmpB, cEq, cNe, cIsN, cNotN, truD, tgN, tgT, setAll, isKd, opFind, opFind3, opStarts, opStarts3, Nat.reduceLT, Nat.reduceAdd, Nat.reduceSub, Nat.reduceLeDiff, Int.reduceLT, Int.reduceLE, Int.reduceNeg, reduceIte, and_self, true_and, and_true, decide_true, decide_false, Int.toNat_natCast, decide_eq_false h2, c15, cell, List.getD_eq_getElem?_getD, List.getElem?_eq_none (show ns.length ≤ k by omega), Option.getD_none]
    rfl
theorem c15_lo (ns : List Int) (k : Nat) : 0 ≤ c15 ns k ∧ c15 ns k < 1000000000000000 := ⟨Int.emod_nonneg _ (by decide), Int.emod_lt_of_pos _ (by decide)⟩
theorem bits15 {n j : Int} (h0 : 0 ≤ n) (h : n < 1000000000000000) (hj : Builtin.Int.intBits j ≤ 1000) : Builtin.Int.intBits n + Builtin.Int.intBits j ≤ 134217728 := by
  have h1 : Builtin.Int.intBits n ≤ 64 := PyProof.Rows.intBits_le (show n.natAbs < 2 ^ 64 by omega)
  omega
/-! unlike small letters -/
structure Lts (L : List Nat) : Prop where
  nd : L.Nodup
  lo : ∀ c ∈ L, 97 ≤ c ∧ c ≤ 122
theorem az_nd : ([97, 98, 99, 100, 101, 102, 103, 104, 105, 106, 107, 108, 109, 110, 111, 112, 113, 114, 115, 116, 117, 118, 119, 120, 121, 122] : List Nat).Nodup := by decide
theorem az_lo : ∀ c ∈ ([97, 98, 99, 100, 101, 102, 103, 104, 105, 106, 107, 108, 109, 110, 111, 112, 113, 114, 115, 116, 117, 118, 119, 120, 121, 122] : List Nat), 97 ≤ c ∧ c ≤ 122 := by decide
theorem cut_nd {l f : List Nat} {k : Nat} (hk : k < l.length) (h : (f ++ l).Nodup) : ((f ++ [l[k]]) ++ (l.take k ++ l.drop (k + 1))).Nodup := by
  have e : List.Perm ((f ++ [l[k]]) ++ (l.take k ++ l.drop (k + 1))) (f ++ l) := by
    rw [List.append_assoc]
    refine List.Perm.append_left f ?_
    have e2 : l = l.take k ++ l[k] :: l.drop (k + 1) := by
      rw [← List.drop_eq_getElem_cons hk, List.take_append_drop]
    have e3 : List.Perm ([l[k]] ++ (l.take k ++ l.drop (k + 1))) (l.take k ++ l[k] :: l.drop (k + 1)) := (List.perm_middle (l₁ := l.take k) (l₂ := l.drop (k + 1)) (a := l[k])).symm
    rw [← e2] at e3
    exact e3
  exact (e.nodup_iff).mpr h
theorem e_letters (c : Int) (m : Nat) (hm : m ≤ 26) : ∃ L, g_law_letters [.int c, .int (m : Int)] = some (.rt (.sh (.str L))) ∧ L.length = m ∧ Lts L := by
  unfold g_law_letters b_law_letters
  have hm2 : (m : Int) ≤ 1000000 ∧ -1000000 ≤ (m : Int) := by omega
  simp only [runDef, cInA, cNinA, inD, itD, fItA, eItA, cLtA, fRr1, fRr2, opInt, sPar, fCallD, fRaise0, fRaise1, sTryAs, sTry, aftr, noX, allEq_const, fXf, fXi, fLc, lcL, unE, tYs, Vs.ret, xLock, inis, bof, sNil, sSeq, sAsg, sRet, sRetV, sRetN, sIf, sDrop, sTg, sFor, sBrk, sCnt, sApp, sExt, sOwn, sSetI, opSetI, sLock, unlk, sbnd, bnd, fOp, fCh, fCl, fCall, fLst, fTup, fSl, fIf, fAnd, fOr, fNot, fTru, fAndV, fOrV, fNotV, fNeg, fIsi, fM1, fM2, fRg1, fRg2, fEn, fRev, fSg, fTp, fIt, eIt, eB, eV, eC, frz, shm, aCons, aNil, poN, poS, Rs.d, Rs.sl, vB, List.cons_append, List.nil_append, List.append_nil, List.replicate_zero, List.replicate_succ, List.getElem?_cons_zero, List.getElem?_cons_succ, List.set_cons_zero, List.set_cons_succ, List.length_cons, List.length_nil, opLen, lenD, opList, opAdd, opSub, opMul, opMod, opDiv, opPow, opMin, opMax, opIx, opSl, cmpB, cEq, cNe, cIsN, cNotN, truD, tgN, tgT, setAll, isKd, opFind, opFind3, opStarts, opStarts3, Nat.reduceLT, Nat.reduceAdd, Nat.reduceSub, Nat.reduceLeDiff, Int.reduceLT, Int.reduceLE, Int.reduceNeg, reduceIte, and_self, true_and, and_true, decide_true, decide_false, Int.toNat_natCast, hm2]
  obtain ⟨e', h1, c', left, found, s1, s2, rfl, h2, h3, h4, h5⟩ := forL_inv (tg := tgN 4) (body := l1_law_letters) (fun i e => ∃ (c' : Int) (left found : List Nat) (s1 s2 : Sl), e = [.sh (.int c'), .sh (.int m), .sh (.str left), .sh (.str found), s1, s2] ∧ left.length = 26 - i ∧ found.length = i ∧ (found ++ left).Nodup ∧ ∀ x ∈ found ++ left, 97 ≤ x ∧ x ≤ 122)
    (rng 0 m) _ ⟨_, _, [], .un, .un, rfl, rfl, rfl, az_nd, az_lo⟩ (fun i d e hd ⟨n, left, found, s1, s2, he, h2, h3, h4, h5⟩ => by
      obtain ⟨hi, rfl⟩ := rng_get hd
      subst he
      have hl : 0 < left.length := by omega
      have hl0 : (0 : Int) < (left.length : Int) := by omega
      have hl1 : (0 : Int) < (left.length : Int) ∧ (left.length : Int) < 1000000000000 := by omega
      have p1 := Int.emod_nonneg n (show (left.length : Int) ≠ 0 by omega)
      have p2 := Int.emod_lt_of_pos n hl0
      have hk : (n % (left.length : Int)).toNat < left.length := by omega
      refine ⟨_, rfl, ?_⟩
      unfold l1_law_letters
      have z1 : left.length ≤ szl := by show left.length ≤ 1000000; omega
      have z2 : found.length + 1 ≤ szl := by
        show found.length + 1 ≤ 1000000
        omega
      have e1 : (n % (left.length : Int) + 1).toNat = (n % (left.length : Int)).toNat + 1 := by omega
      have z3 : (left.take (n % (left.length : Int)).toNat).length + (left.drop ((n % (left.length : Int)).toNat + 1)).length ≤ szl := by
        rw [List.length_take, List.length_drop]
        show _ ≤ 1000000
        omega
      simp only [runDef, cInA, cNinA, inD, itD, fItA, eItA, cLtA, fRr1, fRr2, opInt, sPar, fCallD, fRaise0, fRaise1, sTryAs, sTry, aftr, noX, allEq_const, fXf, fXi, fLc, lcL, unE, tYs, Vs.ret, xLock, inis, bof, sNil, sSeq, sAsg, sRet, sRetV, sRetN, sIf, sDrop, sTg, sFor, sBrk, sCnt, sApp, sExt, sOwn, sSetI, opSetI, sLock, unlk, sbnd, bnd, fOp, fCh, fCl, fCall, fLst, fTup, fSl, fIf, fAnd, fOr, fNot, fTru, fAndV, fOrV, fNotV, fNeg, fIsi, fM1, fM2, fRg1, fRg2, fEn, fRev, fSg, fTp, fIt, eIt, eB, eV, eC, frz, shm, aCons, aNil, poN, poS, Rs.d, Rs.sl, vB, List.cons_append, List.nil_append, List.append_nil, List.replicate_zero, List.replicate_succ, List.getElem?_cons_zero, List.getElem?_cons_succ, List.set_cons_zero, List.set_cons_succ, List.length_cons, List.length_nil, opLen, lenD, opList, opAdd, opSub, opMul, opMod, opDiv, opPow, opMin, opMax, opIx, opSl, cmpB, cEq, cNe, cIsN, cNotN, truD, tgN, tgT, setAll, isKd, opFind, opFind3, opStarts, opStarts3, Nat.reduceLT, Nat.reduceAdd, Nat.reduceSub, Nat.reduceLeDiff, Int.reduceLT, Int.reduceLE, Int.reduceNeg, reduceIte, and_self, true_and, and_true, decide_true, decide_false, Int.toNat_natCast, z1, hl0, hl1, atI_of left p1, List.getElem?_eq_getElem hk, cutL_take left p1, cutL_drop left (show 0 ≤ n % (left.length : Int) + 1 by omega), e1, z2, z3]
      refine ⟨_, rfl, _, _, _, _, _, rfl, ?_, ?_, ?_, ?_⟩
      · rw [List.length_append, List.length_take, List.length_drop]
        omega
      · rw [List.length_append, List.length_cons, List.length_nil]
        omega
      · exact cut_nd hk h4
      · intro x hx
        refine h5 x ?_
        simp only [List.mem_append, List.mem_cons, List.not_mem_nil, or_false] at hx ⊢
        rcases hx with (hx | hx) | hx | hx
        · exact .inl hx
        · exact .inr (hx ▸ List.getElem_mem hk)
        · exact .inr (List.mem_of_mem_take hx)
        · exact .inr (List.mem_of_mem_drop hx))
  rw [h1]
  rw [rng_len] at h3
  simp only [runDef, cInA, cNinA, inD, itD, fItA, eItA, cLtA, fRr1, fRr2, opInt, sPar, fCallD, fRaise0, fRaise1, sTryAs, sTry, aftr, noX, allEq_const, fXf, fXi, fLc, lcL, unE, tYs, Vs.ret, xLock, inis, bof, sNil, sSeq, sAsg, sRet, sRetV, sRetN, sIf, sDrop, sTg, sFor, sBrk, sCnt, sApp, sExt, sOwn, sSetI, opSetI, sLock, unlk, sbnd, bnd, fOp, fCh, fCl, fCall, fLst, fTup, fSl, fIf, fAnd, fOr, fNot, fTru, fAndV, fOrV, fNotV, fNeg, fIsi, fM1, fM2, fRg1, fRg2, fEn, fRev, fSg, fTp, fIt, eIt, eB, eV, eC, frz, shm, aCons, aNil, poN, poS, Rs.d, Rs.sl, vB, List.cons_append, List.nil_append, List.append_nil, List.replicate_zero, List.replicate_succ, List.getElem?_cons_zero, List.getElem?_cons_succ, List.set_cons_zero, List.set_cons_succ, List.length_cons, List.length_nil, opLen, lenD, opList, opAdd, opSub, opMul, opMod, opDiv, opPow, opMin, opMax, opIx, opSl, cmpB, cEq, cNe, cIsN, cNotN, truD, tgN, tgT, setAll, isKd, opFind, opFind3, opStarts, opStarts3, Nat.reduceLT, Nat.reduceAdd, Nat.reduceSub, Nat.reduceLeDiff, Int.reduceLT, Int.reduceLE, Int.reduceNeg, reduceIte, and_self, true_and, and_true, decide_true, decide_false, Int.toNat_natCast]
  exact ⟨found, rfl, h3, ⟨(List.nodup_append.mp h4).1, fun x hx => h5 x (List.mem_append_left _ hx)⟩⟩
/-! drawn words -/
theorem e_word (L : List Nat) (c : Int) (m : Nat) (hL : 0 < L.length) (hL2 : L.length ≤ 1000) (hm : m ≤ 1000) : ∃ w, g_law_word [.str L, .int c, .int (m : Int)] = some (.rt (.sh (.str w))) ∧ w.length = m ∧ ∀ x ∈ w, x ∈ L := by
  unfold g_law_word b_law_word
  have hm2 : (m : Int) ≤ 1000000 ∧ -1000000 ≤ (m : Int) := by omega
  simp only [runDef, cInA, cNinA, inD, itD, fItA, eItA, cLtA, fRr1, fRr2, opInt, sPar, fCallD, fRaise0, fRaise1, sTryAs, sTry, aftr, noX, allEq_const, fXf, fXi, fLc, lcL, unE, tYs, Vs.ret, xLock, inis, bof, sNil, sSeq, sAsg, sRet, sRetV, sRetN, sIf, sDrop, sTg, sFor, sBrk, sCnt, sApp, sExt, sOwn, sSetI, opSetI, sLock, unlk, sbnd, bnd, fOp, fCh, fCl, fCall, fLst, fTup, fSl, fIf, fAnd, fOr, fNot, fTru, fAndV, fOrV, fNotV, fNeg, fIsi, fM1, fM2, fRg1, fRg2, fEn, fRev, fSg, fTp, fIt, eIt, eB, eV, eC, frz, shm, aCons, aNil, poN, poS, Rs.d, Rs.sl, vB, List.cons_append, List.nil_append, List.append_nil, List.replicate_zero, List.replicate_succ, List.getElem?_cons_zero, List.getElem?_cons_succ, List.set_cons_zero, List.set_cons_succ, List.length_cons, List.length_nil, opLen, lenD, opList, opAdd, opSub, opMul, opMod, opDiv, opPow, opMin, opMax, opIx, opSl, cmpB, cEq, cNe, cIsN, cNotN, truD, tgN, tgT, setAll, isKd, opFind, opFind3, opStarts, opStarts3, Nat.reduceLT, Nat.reduceAdd, Nat.reduceSub, Nat.reduceLeDiff, Int.reduceLT, Int.reduceLE, Int.reduceNeg, reduceIte, and_self, true_and, and_true, decide_true, decide_false, Int.toNat_natCast, hm2]
  obtain ⟨e', h1, w, n, s1, rfl, h2, h5⟩ := forL_inv (tg := tgN 4) (body := l1_law_word) (fun i e => ∃ (w : List Nat) (n : Int) (s1 : Sl), e = [.sh (.str L), .sh (.int n), .sh (.int m), .sh (.str w), s1] ∧ w.length = i ∧ ∀ x ∈ w, x ∈ L)
    (rng 0 m) _ ⟨[], c, .un, rfl, rfl, fun x hx => by cases hx⟩ (fun i d e hd ⟨w, n, s1, he, h2, h5⟩ => by
      obtain ⟨hi, rfl⟩ := rng_get hd
      subst he
      refine ⟨_, rfl, ?_⟩
      unfold l1_law_word
      have hl0 : (0 : Int) < (L.length : Int) := by omega
      have hl1 : (0 : Int) < (L.length : Int) ∧ (L.length : Int) < 1000000000000 := by omega
      have z1 : L.length ≤ szl := by show L.length ≤ 1000000; omega
      have z2 : w.length + 1 ≤ szl := by show w.length + 1 ≤ 1000000; omega
      have p1 := Int.emod_nonneg n (show (L.length : Int) ≠ 0 by omega)
      have p2 := Int.emod_lt_of_pos n hl0
      have hk : (n % (L.length : Int)).toNat < L.length := by omega
      simp only [runDef, cInA, cNinA, inD, itD, fItA, eItA, cLtA, fRr1, fRr2, opInt, sPar, fCallD, fRaise0, fRaise1, sTryAs, sTry, aftr, noX, allEq_const, fXf, fXi, fLc, lcL, unE, tYs, Vs.ret, xLock, inis, bof, sNil, sSeq, sAsg, sRet, sRetV, sRetN, sIf, sDrop, sTg, sFor, sBrk, sCnt, sApp, sExt, sOwn, sSetI, opSetI, sLock, unlk, sbnd, bnd, fOp, fCh, fCl, fCall, fLst, fTup, fSl, fIf, fAnd, fOr, fNot, fTru, fAndV, fOrV, fNotV, fNeg, fIsi, fM1, fM2, fRg1, fRg2, fEn, fRev, fSg, fTp, fIt, eIt, eB, eV, eC, frz, shm, aCons, aNil, poN, poS, Rs.d, Rs.sl, vB, List.cons_append, List.nil_append, List.append_nil, List.replicate_zero, List.replicate_succ, List.getElem?_cons_zero, List.getElem?_cons_succ, List.set_cons_zero, List.set_cons_succ, List.length_cons, List.length_nil, opLen, lenD, opList, opAdd, opSub, opMul, opMod, opDiv, opPow, opMin, opMax, opIx, opSl, cmpB, cEq, cNe, cIsN, cNotN, truD, tgN, tgT, setAll, isKd, opFind, opFind3, opStarts, opStarts3, Nat.reduceLT, Nat.reduceAdd, Nat.reduceSub, Nat.reduceLeDiff, Int.reduceLT, Int.reduceLE, Int.reduceNeg, reduceIte, and_self, true_and, and_true, decide_true, decide_false, Int.toNat_natCast, z1, z2, hl0, hl1, atI_of L p1, List.getElem?_eq_getElem hk]
      refine ⟨_, rfl, _, _, _, rfl, ?_, fun x hx => ?_⟩
      · rw [List.length_append, List.length_cons, List.length_nil]
        omega
      · rcases List.mem_append.mp hx with hx | hx
        · exact h5 x hx
        · rw [List.mem_singleton.mp hx]
          exact List.getElem_mem hk)
  rw [h1]
  rw [rng_len] at h2
  simp only [runDef, cInA, cNinA, inD, itD, fItA, eItA, cLtA, fRr1, fRr2, opInt, sPar, fCallD, fRaise0, fRaise1, sTryAs, sTry, aftr, noX, allEq_const, fXf, fXi, fLc, lcL, unE, tYs, Vs.ret, xLock, inis, bof, sNil, sSeq, sAsg, sRet, sRetV, sRetN, sIf, sDrop, sTg, sFor, sBrk, sCnt, sApp, sExt, sOwn, sSetI, opSetI, sLock, unlk, sbnd, bnd, fOp, fCh, fCl, fCall, fLst, fTup, fSl, fIf, fAnd, fOr, fNot, fTru, fAndV, fOrV, fNotV, fNeg, fIsi, fM1, fM2, fRg1, fRg2, fEn, fRev, fSg, fTp, fIt, eIt, eB, eV, eC, frz, shm, aCons, aNil, poN, poS, Rs.d, Rs.sl, vB, List.cons_append, List.nil_append, List.append_nil, List.replicate_zero, List.replicate_succ, List.getElem?_cons_zero, List.getElem?_cons_succ, List.set_cons_zero, List.set_cons_succ, List.length_cons, List.length_nil, opLen, lenD, opList, opAdd, opSub, opMul, opMod, opDiv, opPow, opMin, opMax, opIx, opSl, cmpB, cEq, cNe, cIsN, cNotN, truD, tgN, tgT, setAll, isKd, opFind, opFind3, opStarts, opStarts3, Nat.reduceLT, Nat.reduceAdd, Nat.reduceSub, Nat.reduceLeDiff, Int.reduceLT, Int.reduceLE, Int.reduceNeg, reduceIte, and_self, true_and, and_true, decide_true, decide_false, Int.toNat_natCast]
  exact ⟨w, rfl, h2, h5⟩

/-! the places of letters -/
theorem e_ranks (L a : List Nat) (k : Nat) (e0 : En) (P : Sl → En) (te : Sm D) (hk : k ≤ k)
    (h1 : ∀ d s, tgN k d (P s) = some (P (.sh d))) (h2 : ∀ c s, te (P (.sh (.str [c]))) = some (.ok (.int (Txt.find (S L) (S [c]))) (P s)) ∨ te (P (.sh (.str [c]))) = some (.ok (.int (Txt.find (S L) (S [c]))) (P (.sh (.str [c]))))) (h3 : ∀ s, unE [k] (P s) = P .un) :
    lcL (tgN k) tYs te [k] (a.map fun c => D.str [c]) [] (P .un) = some (.ok (.ow ((a.map fun c => Txt.find (S L) (S [c])).map D.int)) (P .un)) := by
  have key : ∀ (a : List Nat) (acc : List D), lcL (tgN k) tYs te [k] (a.map fun c => D.str [c]) acc (P .un) = some (.ok (.ow (acc ++ (a.map fun c => Txt.find (S L) (S [c])).map D.int)) (P .un)) := by
    intro a
    induction a with
    | nil => intro acc; simp [lcL]
    | cons c a ih =>
      intro acc
      rw [List.map_cons]
      dsimp only [lcL]
      rw [h1]
      have hy : ∀ e, tYs e = some (.ok true e) := fun _ => rfl
      dsimp only
      rw [hy]
      dsimp only
      rcases h2 c .un with h | h
      · rw [h]
        dsimp only
        rw [h3, ih]
        simp
      · rw [h]
        dsimp only
        rw [h3, ih]
        simp
  simpa using key a []

/-! where a part stands -/
def stB (w p : List Nat) (i : Nat) : Bool := decide (i + p.length ≤ w.length) && ((w.drop i).take p.length == p)
theorem at_stB (w p : List Nat) (i : Nat) : PySem.StrLaws.At (S w) (S p) (S w).length i ↔ stB w p i = true := by
  unfold PySem.StrLaws.At stB
  rw [PySem.StrLaws.subAt_eq, S_len, S_len, S_cps, S_cps]
  simp
/-- the places from lo on, rising -/
def plc (w p : List Nat) (lo : Nat) : List Nat := (List.range' lo (w.length + 1 - lo)).filter (stB w p)
theorem plc_hit {w p : List Nat} {lo k : Nat} (h0 : lo ≤ k) (hk : k ≤ w.length) (h1 : stB w p k = true) (h2 : ∀ j, lo ≤ j → j < k → stB w p j = false) : plc w p lo = k :: plc w p (k + 1) := by
  unfold plc
  have e : List.range' lo (w.length + 1 - lo) = List.range' lo (k - lo) ++ k :: List.range' (k + 1) (w.length + 1 - (k + 1)) := by
    have : w.length + 1 - lo = (k - lo) + (1 + (w.length + 1 - (k + 1))) := by omega
    rw [this, ← List.range'_append_1, ← List.range'_append_1]
    rw [show lo + (k - lo) = k by omega]
    rfl
  rw [e, List.filter_append, List.filter_cons_of_pos h1]
  have : (List.range' lo (k - lo)).filter (stB w p) = [] := by
    rw [List.filter_eq_nil_iff]
    intro j hj
    rw [List.mem_range'_1] at hj
    rw [h2 j hj.1 (by omega)]
    exact Bool.false_ne_true
  rw [this, List.nil_append]
theorem plc_none {w p : List Nat} {lo : Nat} (h2 : ∀ j, lo ≤ j → stB w p j = false) : plc w p lo = [] := by
  unfold plc
  rw [List.filter_eq_nil_iff]
  intro j hj
  rw [List.mem_range'_1] at hj
  rw [h2 j hj.1]
  exact Bool.false_ne_true
theorem stB_le {w p : List Nat} {i : Nat} (h : stB w p i = true) : i ≤ w.length := by
  unfold stB at h
  rw [Bool.and_eq_true] at h
  have := of_decide_eq_true h.1
  omega
/-- the next place from lo on -/
theorem find_from (w p : List Nat) (lo : Nat) : (Txt.find3 (S w) (S p) (lo : Int) = -1 ∧ plc w p lo = []) ∨ ∃ k : Nat, Txt.find3 (S w) (S p) (lo : Int) = (k : Int) ∧ lo ≤ k ∧ k ≤ w.length ∧ plc w p lo = k :: plc w p (k + 1) := by
  unfold Txt.find3
  have e : PySem.fromIndex (S w).length (lo : Int) = lo := by
    unfold PySem.fromIndex
    rw [if_neg (by omega)]
    omega
  rw [e]
  rcases PySem.StrLaws.occ_head_from (S w) (S p) lo 1 (Nat.le_refl 1) with ⟨h0, hn⟩ | ⟨k, r, h0, hlo, hk, hn⟩
  · rw [h0]
    refine .inl ⟨rfl, plc_none fun j hj => ?_⟩
    have := hn j hj
    rw [at_stB] at this
    simpa using this
  · rw [h0]
    rw [at_stB] at hk
    refine .inr ⟨k, rfl, hlo, stB_le hk, plc_hit hlo (stB_le hk) hk fun j h1 h2 => ?_⟩
    have := hn j h1 h2
    rw [at_stB] at this
    simpa using this
theorem find_first (w p : List Nat) : Txt.find (S w) (S p) = Txt.find3 (S w) (S p) 0 := by
  unfold Txt.find Txt.find3
  have e : PySem.fromIndex (S w).length 0 = 0 := by
    unfold PySem.fromIndex
    rw [if_neg (by omega)]
    omega
  rw [e]
  cases Builtin.Str.occurrences (S w) (S p) 0 (S w).length 1 <;> rfl

/-! k66 -/
theorem find_in {L : List Nat} {c : Nat} (hc : c ∈ L) : ∃ k : Nat, Txt.find (S L) (S [c]) = (k : Int) ∧ k < L.length := by
  rw [find_first]
  obtain ⟨i, hi, e⟩ := List.getElem_of_mem hc
  have hst : stB L [c] i = true := by
    unfold stB
    rw [Bool.and_eq_true]
    refine ⟨decide_eq_true (by rw [List.length_singleton]; omega), ?_⟩
    rw [beq_iff_eq, List.drop_eq_getElem_cons hi, e]
    rfl
  have hmem : i ∈ plc L [c] 0 := by
    unfold plc
    rw [List.mem_filter, List.mem_range'_1]
    exact ⟨⟨by omega, by omega⟩, hst⟩
  rcases find_from L [c] 0 with ⟨_, h2⟩ | ⟨k, h1, _, _, h4⟩
  · rw [h2] at hmem; cases hmem
  · refine ⟨k, h1, ?_⟩
    have : k ∈ plc L [c] 0 := by rw [h4]; exact List.mem_cons_self
    unfold plc at this
    rw [List.mem_filter] at this
    have h5 := this.2
    unfold stB at h5
    rw [Bool.and_eq_true] at h5
    have := of_decide_eq_true h5.1
    rw [List.length_singleton] at this
    omega
def nD (l : List Nat) : List D := l.map fun (n : Nat) => D.int (n : Int)
theorem e_places (L w : List Nat) (hw : w.length ≤ 1000) (hL : ∀ c ∈ w, c ∈ L) : ∃ ps, g_places_of [.str L, .str w] = some (.rt (.ow (nD ps))) ∧ ∀ p ∈ ps, p < L.length := by
  have zw : (w.map fun c => D.str [c]).length ≤ szl := by rw [List.length_map]; show _ ≤ 1000000; omega
  have r := e_ranks L w 2 [] (fun s => [.sh (.str L), .sh (.str w), s]) (frz (fM1 opFind (eB 0) (eB 2))) (Nat.le_refl _) (fun d s => rfl) (fun c s => .inr rfl) (fun s => rfl)
  have hp : ∃ ps : List Nat, (w.map fun c => Txt.find (S L) (S [c])).map D.int = nD ps ∧ ∀ p ∈ ps, p < L.length := by
    clear zw r hw
    induction w with
    | nil => exact ⟨[], rfl, fun p h => nomatch h⟩
    | cons c w ih =>
      obtain ⟨ps, h1, h2⟩ := ih fun x hx => hL x (List.mem_cons_of_mem _ hx)
      obtain ⟨k, h3, h4⟩ := find_in (hL c List.mem_cons_self)
      refine ⟨k :: ps, ?_, fun p hp => ?_⟩
      · rw [List.map_cons, List.map_cons, h1, h3]
        rfl
      · rcases List.mem_cons.mp hp with rfl | hp
        · exact h4
        · exact h2 p hp
  obtain ⟨ps, h1, h2⟩ := hp
  refine ⟨ps, ?_, h2⟩
  unfold g_places_of b_places_of
  simp only [runDef, inis, bof, List.replicate, List.cons_append, List.nil_append, List.append_nil, sRet, bnd, sbnd, xLock, eItA, fLc, itD, List.getElem?_cons_zero, List.getElem?_cons_succ, zw, if_true, unE, List.set_cons_zero, List.set_cons_succ, r, h1]
theorem nD_get {l : List Nat} {i : Nat} (h : i < l.length) : (nD l)[i]? = some (.int (l[i] : Int)) := by
  unfold nD
  rw [List.getElem?_map, List.getElem?_eq_getElem h]
  rfl
theorem nD_len (l : List Nat) : (nD l).length = l.length := List.length_map ..
theorem bits9 {a b : Nat} (h1 : a ≤ 100000) (h2 : b ≤ 100000) : Builtin.Int.intBits (a : Int) + Builtin.Int.intBits (b : Int) ≤ 134217728 := by
  have h1 : Builtin.Int.intBits (a : Int) ≤ 32 := PyProof.Rows.intBits_le (show (a : Int).natAbs < 2 ^ 32 by omega)
  have h2 : Builtin.Int.intBits (b : Int) ≤ 32 := PyProof.Rows.intBits_le (show (b : Int).natAbs < 2 ^ 32 by omega)
  omega
theorem e_end {cs ps : List Nat} {r m room : Nat} (hl : cs.length = r * m) (hc : ∀ c ∈ cs, c < r) (hp : ∀ p ∈ ps, p < m) (hr : room < r) (hr8 : r ≤ 100) (hm : m ≤ 100) : ∃ e, g_end_of [.lst (nD cs), .int (m : Int), .int (room : Int), .lst (nD ps)] = some (.rt (.sh (.int e))) := by
  unfold g_end_of b_end_of
  simp only [runDef, cInA, cNinA, inD, itD, fItA, eItA, cLtA, fRr1, fRr2, opInt, sPar, fCallD, fRaise0, fRaise1, sTryAs, sTry, aftr, noX, allEq_const, fXf, fXi, fLc, lcL, unE, tYs, Vs.ret, xLock, inis, bof, sNil, sSeq, sAsg, sRet, sRetV, sRetN, sIf, sDrop, sTg, sFor, sBrk, sCnt, sApp, sExt, sOwn, sSetI, opSetI, sLock, unlk, sbnd, bnd, fOp, fCh, fCl, fCall, fLst, fTup, fSl, fIf, fAnd, fOr, fNot, fTru, fAndV, fOrV, fNotV, fNeg, fIsi, fM1, fM2, fRg1, fRg2, fEn, fRev, fSg, fTp, fIt, eIt, eB, eV, eC, frz, shm, aCons, aNil, poN, poS, Rs.d, Rs.sl, vB, List.cons_append, List.nil_append, List.append_nil, List.replicate_zero, List.replicate_succ, List.getElem?_cons_zero, List.getElem?_cons_succ, List.set_cons_zero, List.set_cons_succ, List.length_cons, List.length_nil, opLen, lenD, opList, opAdd, opSub, opMul, opMod, opDiv, opPow, opMin, opMax, opIx, opSl, cmpB, cEq, cNe, cIsN, cNotN, truD, tgN, tgT, setAll, isKd, opFind, opFind3, opStarts, opStarts3, Nat.reduceLT, Nat.reduceAdd, Nat.reduceSub, Nat.reduceLeDiff, Int.reduceLT, Int.reduceLE, Int.reduceNeg, reduceIte, and_self, true_and, and_true, decide_true, decide_false, Int.toNat_natCast]
  obtain ⟨e', h1, q, s, rfl, h2⟩ := forL_inv (tg := tgN 4) (body := l1_end_of) (fun i e => ∃ (q : Nat) (s : Sl), e = [.bo (nD cs), .sh (.int (m : Int)), .sh (.int (q : Int)), .bo (nD ps), s] ∧ q < r)
    (nD ps) [.bo (nD cs), .sh (.int (m : Int)), .sh (.int (room : Int)), .bo (nD ps), .un] ⟨room, .un, rfl, hr⟩ (fun i d e hd ⟨q, s, he, h2⟩ => by
      have hi : i < ps.length := by
        have := (List.getElem?_eq_some_iff.mp hd).1
        rw [nD_len] at this
        exact this
      rw [nD_get hi] at hd
      cases hd
      subst he
      refine ⟨_, rfl, ?_⟩
      have hpi := hp _ (List.getElem_mem hi)
      have hix : q * m + ps[i] < cs.length := by
        rw [hl]
        have : (q + 1) * m ≤ r * m := Nat.mul_le_mul_right m (by omega)
        rw [Nat.add_mul] at this
        omega
      have e1 : (q : Int) * (m : Int) + (ps[i] : Int) = ((q * m + ps[i] : Nat) : Int) := by rw [Int.natCast_add, Int.natCast_mul]
      unfold l1_end_of
      simp only [runDef, cInA, cNinA, inD, itD, fItA, eItA, cLtA, fRr1, fRr2, opInt, sPar, fCallD, fRaise0, fRaise1, sTryAs, sTry, aftr, noX, allEq_const, fXf, fXi, fLc, lcL, unE, tYs, Vs.ret, xLock, inis, bof, sNil, sSeq, sAsg, sRet, sRetV, sRetN, sIf, sDrop, sTg, sFor, sBrk, sCnt, sApp, sExt, sOwn, sSetI, opSetI, sLock, unlk, sbnd, bnd, fOp, fCh, fCl, fCall, fLst, fTup, fSl, fIf, fAnd, fOr, fNot, fTru, fAndV, fOrV, fNotV, fNeg, fIsi, fM1, fM2, fRg1, fRg2, fEn, fRev, fSg, fTp, fIt, eIt, eB, eV, eC, frz, shm, aCons, aNil, poN, poS, Rs.d, Rs.sl, vB, List.cons_append, List.nil_append, List.append_nil, List.replicate_zero, List.replicate_succ, List.getElem?_cons_zero, List.getElem?_cons_succ, List.set_cons_zero, List.set_cons_succ, List.length_cons, List.length_nil, opLen, lenD, opList, opAdd, opSub, opMul, opMod, opDiv, opPow, opMin, opMax, opIx, opSl, cmpB, cEq, cNe, cIsN, cNotN, truD, tgN, tgT, setAll, isKd, opFind, opFind3, opStarts, opStarts3, Nat.reduceLT, Nat.reduceAdd, Nat.reduceSub, Nat.reduceLeDiff, Int.reduceLT, Int.reduceLE, Int.reduceNeg, reduceIte, and_self, true_and, and_true, decide_true, decide_false, Int.toNat_natCast, bits9 (show q ≤ 100000 by omega) (show m ≤ 100000 by omega), e1, atI_of (nD cs) (Int.natCast_nonneg (q * m + ps[i])), nD_get hix]
      exact ⟨_, rfl, _, _, rfl, hc _ (List.getElem_mem hix)⟩)
  rw [h1]
  simp only [runDef, cInA, cNinA, inD, itD, fItA, eItA, cLtA, fRr1, fRr2, opInt, sPar, fCallD, fRaise0, fRaise1, sTryAs, sTry, aftr, noX, allEq_const, fXf, fXi, fLc, lcL, unE, tYs, Vs.ret, xLock, inis, bof, sNil, sSeq, sAsg, sRet, sRetV, sRetN, sIf, sDrop, sTg, sFor, sBrk, sCnt, sApp, sExt, sOwn, sSetI, opSetI, sLock, unlk, sbnd, bnd, fOp, fCh, fCl, fCall, fLst, fTup, fSl, fIf, fAnd, fOr, fNot, fTru, fAndV, fOrV, fNotV, fNeg, fIsi, fM1, fM2, fRg1, fRg2, fEn, fRev, fSg, fTp, fIt, eIt, eB, eV, eC, frz, shm, aCons, aNil, poN, poS, Rs.d, Rs.sl, vB, List.cons_append, List.nil_append, List.append_nil, List.replicate_zero, List.replicate_succ, List.getElem?_cons_zero, List.getElem?_cons_succ, List.set_cons_zero, List.set_cons_succ, List.length_cons, List.length_nil, opLen, lenD, opList, opAdd, opSub, opMul, opMod, opDiv, opPow, opMin, opMax, opIx, opSl, cmpB, cEq, cNe, cIsN, cNotN, truD, tgN, tgT, setAll, isKd, opFind, opFind3, opStarts, opStarts3, Nat.reduceLT, Nat.reduceAdd, Nat.reduceSub, Nat.reduceLeDiff, Int.reduceLT, Int.reduceLE, Int.reduceNeg, reduceIte, and_self, true_and, and_true, decide_true, decide_false, Int.toNat_natCast]
  exact ⟨_, rfl⟩
theorem ixN_in {n i : Nat} (h : i < n) : ixN n (i : Int) = some i := by
  unfold ixN
  rw [if_pos (Int.natCast_nonneg i), if_pos (by omega)]
  rfl
/-- a table's cells as one number -/
def val (r : Nat) (l : List Nat) : Nat := l.foldl (fun a d => a * r + d) 0
def valF (r x : Nat) (l : List Nat) : Nat := l.foldl (fun a d => a * r + d) x
theorem valF_top (r : Nat) (hr : 0 < r) : ∀ (k x : Nat), valF r x (List.replicate k (r - 1)) + 1 = (x + 1) * r ^ k
  | 0, x => by simp [valF]
  | k + 1, x => by
    rw [List.replicate_succ]
    show valF r (x * r + (r - 1)) (List.replicate k (r - 1)) + 1 = _
    rw [valF_top r hr k, Nat.pow_succ, show x * r + (r - 1) + 1 = (x + 1) * r by rw [Nat.add_mul]; omega, Nat.mul_assoc, Nat.mul_comm r]
theorem valF_zero (r : Nat) : ∀ (k x : Nat), valF r x (List.replicate k 0) = x * r ^ k
  | 0, x => by simp [valF]
  | k + 1, x => by
    rw [List.replicate_succ]
    show valF r (x * r + 0) (List.replicate k 0) = _
    rw [valF_zero r k, Nat.pow_succ, Nat.add_zero, Nat.mul_assoc, Nat.mul_comm r]
theorem valF_lt (r : Nat) (hr : 0 < r) : ∀ (l : List Nat) (x : Nat), (∀ d ∈ l, d < r) → valF r x l < (x + 1) * r ^ l.length
  | [], x, _ => by simp [valF]
  | d :: l, x, h => by
    show valF r (x * r + d) l < _
    have h1 := h d List.mem_cons_self
    have h2 := valF_lt r hr l (x * r + d) fun e he => h e (List.mem_cons_of_mem _ he)
    refine Nat.lt_of_lt_of_le h2 ?_
    rw [List.length_cons, Nat.pow_succ, Nat.mul_comm (r ^ l.length), ← Nat.mul_assoc]
    refine Nat.mul_le_mul_right _ ?_
    rw [Nat.add_mul]
    omega
theorem e_next {l : List Nat} {r : Nat} (hr : 0 < r) (hr8 : r ≤ 100) (hl : l.length ≤ 1000) (hc : ∀ c ∈ l, c < r) : (∃ l', g_next_cells [.lst (nD l), .int (r : Int)] = some (.rt (.ow (nD l'))) ∧ l'.length = l.length ∧ (∀ c ∈ l', c < r) ∧ val r l' = val r l + 1) ∨ g_next_cells [.lst (nD l), .int (r : Int)] = some (.rt (.sh .non)) := by
  unfold g_next_cells b_next_cells
  have zl : (nD l).length ≤ szl := by rw [nD_len]; show _ ≤ 1000000; omega
  have hm2 : ((nD l).length : Int) ≤ 1000000 ∧ -1000000 ≤ ((nD l).length : Int) := by rw [nD_len]; omega
  simp only [runDef, cInA, cNinA, inD, itD, fItA, eItA, cLtA, fRr1, fRr2, opInt, sPar, fCallD, fRaise0, fRaise1, sTryAs, sTry, aftr, noX, allEq_const, fXf, fXi, fLc, lcL, unE, tYs, Vs.ret, xLock, inis, bof, sNil, sSeq, sAsg, sRet, sRetV, sRetN, sIf, sDrop, sTg, sFor, sBrk, sCnt, sApp, sExt, sOwn, sSetI, opSetI, sLock, unlk, sbnd, bnd, fOp, fCh, fCl, fCall, fLst, fTup, fSl, fIf, fAnd, fOr, fNot, fTru, fAndV, fOrV, fNotV, fNeg, fIsi, fM1, fM2, fRg1, fRg2, fEn, fRev, fSg, fTp, fIt, eIt, eB, eV, eC, frz, shm, aCons, aNil, poN, poS, Rs.d, Rs.sl, vB, List.cons_append, List.nil_append, List.append_nil, List.replicate_zero, List.replicate_succ, List.getElem?_cons_zero, List.getElem?_cons_succ, List.set_cons_zero, List.set_cons_succ, List.length_cons, List.length_nil, opLen, lenD, opList, opAdd, opSub, opMul, opMod, opDiv, opPow, opMin, opMax, opIx, opSl, cmpB, cEq, cNe, cIsN, cNotN, truD, tgN, tgT, setAll, isKd, opFind, opFind3, opStarts, opStarts3, Nat.reduceLT, Nat.reduceAdd, Nat.reduceSub, Nat.reduceLeDiff, Int.reduceLT, Int.reduceLE, Int.reduceNeg, reduceIte, and_self, true_and, and_true, decide_true, decide_false, Int.toNat_natCast, zl, hm2]
  obtain ⟨o, h1, h2⟩ := forL_out (tg := tgN 3) (body := l1_next_cells) (fun k e => ∃ s, e = [.bo (nD l), .sh (.int (r : Int)), .ow (nD (l.take (l.length - k) ++ List.replicate k 0)), s] ∧ l.drop (l.length - k) = List.replicate k (r - 1))
    (fun o => (∃ e, o = .nx e) ∨ ∃ l', o = .rt (.ow (nD l')) ∧ l'.length = l.length ∧ (∀ c ∈ l', c < r) ∧ val r l' = val r l + 1)
    (rngR (((nD l).length : Int) - 1) (nD l).length) 0 [.bo (nD l), .sh (.int (r : Int)), .ow (nD l), .un] ⟨.un, by simp, by simp⟩ (fun k d e hd ⟨s, he, hk⟩ => by
      rw [Nat.zero_add] at he hk
      have hkl : k < l.length := by
        have := (List.getElem?_eq_some_iff.mp hd).1
        unfold rngR at this
        simpa [nD_len] using this
      obtain ⟨t, ht⟩ : ∃ t, t = l.length - 1 - k := ⟨_, rfl⟩
      have htl : t < l.length := by omega
      have hd' : d = .int (t : Int) := by
        unfold rngR at hd
        rw [List.getElem?_map, List.getElem?_range (by rw [nD_len]; exact hkl)] at hd
        have hd2 := Option.some.inj (show some (D.int (((nD l).length : Int) - 1 - (k : Int))) = some d from hd)
        have hnl := nD_len l
        rw [← hd2]
        congr 1
        omega
      subst hd'
      subst he
      refine ⟨_, rfl, ?_⟩
      have hsplit : l.take (l.length - k) = l.take t ++ [l[t]] := by
        rw [show l.length - k = t + 1 by omega, List.take_succ_eq_append_getElem htl]
      rw [hsplit]
      have lt : (l.take t).length = t := by rw [List.length_take]; omega
      have hget : ∀ (x : Nat) (y : List Nat), (nD (l.take t ++ [x] ++ y))[t]? = some (.int (x : Int)) := fun x y => by
        rw [nD_get (by simp; omega)]
        simp [lt]
      have hset : ∀ (x z : Nat) (y : List Nat), (nD (l.take t ++ [x] ++ y)).set t (.int (z : Int)) = nD (l.take t ++ [z] ++ y) := fun x z y => by
        unfold nD
        simp only [List.map_append, List.map_cons, List.map_nil, List.append_assoc, List.cons_append, List.nil_append]
        rw [List.set_append_right _ _ (by rw [List.length_map, lt]; exact Nat.le_refl _), List.length_map, lt, Nat.sub_self]
        rfl
      have hlen : ∀ (x : Nat) (y : List Nat), (nD (l.take t ++ [x] ++ y)).length = t + 1 + y.length := fun x y => by rw [nD_len]; simp [lt]; omega
      have hix : ∀ (x : Nat) (y : List Nat), ixN (nD (l.take t ++ [x] ++ y)).length (t : Int) = some t := fun x y => ixN_in (by rw [hlen]; omega)
      have hat : ∀ (x : Nat) (y : List Nat), atI (nD (l.take t ++ [x] ++ y)) (t : Int) = some (.int (x : Int)) := fun x y => by
        rw [atI_of _ (Int.natCast_nonneg t), Int.toNat_natCast, hget]
      have hs1 : (nD (l.take t ++ [l[t]] ++ List.replicate k 0)).set t (.int ((l[t] : Int) + 1)) = nD (l.take t ++ [l[t] + 1] ++ List.replicate k 0) := by
        have := hset l[t] (l[t] + 1) (List.replicate k 0)
        rw [← this]
        rfl
      have hs2 : ∀ (x : Nat) (y : List Nat), (nD (l.take t ++ [x] ++ y)).set t (.int 0) = nD (l.take t ++ [0] ++ y) := fun x y => hset x 0 y
      have hdt : l.drop t = l[t] :: List.replicate k (r - 1) := by
        rw [List.drop_eq_getElem_cons htl, show t + 1 = l.length - k by omega, hk]
      have hlt := hc _ (List.getElem_mem htl)
      unfold l1_next_cells
      by_cases hin : l[t] + 1 < r
      · have hin' : ((l[t] + 1 : Nat) : Int) < (r : Int) := by omega
        refine ⟨.rt (.ow (nD (l.take t ++ [l[t] + 1] ++ List.replicate k 0))), ?_, .inr ⟨_, rfl, ?_, ?_, ?_⟩⟩
        · simp only [runDef, cInA, cNinA, inD, itD, fItA, eItA, cLtA, fRr1, fRr2, opInt, sPar, fCallD, fRaise0, fRaise1, sTryAs, sTry, aftr, noX, allEq_const, fXf, fXi, fLc, lcL, unE, tYs, Vs.ret, xLock, inis, bof, sNil, sSeq, sAsg, sRet, sRetV, sRetN, sIf, sDrop, sTg, sFor, sBrk, sCnt, sApp, sExt, sOwn, sSetI, opSetI, sLock, unlk, sbnd, bnd, fOp, fCh, fCl, fCall, fLst, fTup, fSl, fIf, fAnd, fOr, fNot, fTru, fAndV, fOrV, fNotV, fNeg, fIsi, fM1, fM2, fRg1, fRg2, fEn, fRev, fSg, fTp, fIt, eIt, eB, eV, eC, frz, shm, aCons, aNil, poN, poS, Rs.d, Rs.sl, vB, List.cons_append, List.nil_append, List.append_nil, List.replicate_zero, List.replicate_succ, List.getElem?_cons_zero, List.getElem?_cons_succ, List.set_cons_zero, List.set_cons_succ, List.length_cons, List.length_nil, opLen, lenD, opList, opAdd, opSub, opMul, opMod, opDiv, opPow, opMin, opMax, opIx, opSl, cmpB, cEq, cNe, cIsN, cNotN, truD, tgN, tgT, setAll, isKd, opFind, opFind3, opStarts, opStarts3, Nat.reduceLT, Nat.reduceAdd, Nat.reduceSub, Nat.reduceLeDiff, Int.reduceLT, Int.reduceLE, Int.reduceNeg, reduceIte, and_self, true_and, and_true, decide_true, decide_false, Int.toNat_natCast, hat, hix, hs1, i1_next_cells, decide_eq_true hin']
        · simp [lt]; omega
        · intro c hc2
          rcases List.mem_append.mp hc2 with hc2 | hc2
          · rcases List.mem_append.mp hc2 with hc2 | hc2
            · exact hc c (List.mem_of_mem_take hc2)
            · rw [List.mem_singleton.mp hc2]; exact hin
          · rw [(List.mem_replicate.mp hc2).2]; exact hr
        · have e1 : val r l = valF r (valF r 0 (l.take t) * r + l[t]) (List.replicate k (r - 1)) := by
            have h : valF r 0 (l.take t ++ l.drop t) = valF r (valF r 0 (l.take t)) (l.drop t) := by unfold valF; rw [List.foldl_append]
            rw [List.take_append_drop] at h
            show valF r 0 l = _
            rw [h, hdt]
            rfl
          have e2 : val r (l.take t ++ [l[t] + 1] ++ List.replicate k 0) = valF r (valF r 0 (l.take t) * r + (l[t] + 1)) (List.replicate k 0) := by
            show valF r 0 _ = _
            unfold valF
            rw [List.foldl_append, List.foldl_append]
            rfl
          rw [e2, e1, valF_zero, valF_top r hr]
          rfl
      · have hin' : ¬ ((l[t] + 1 : Nat) : Int) < (r : Int) := by omega
        have hl1 : l[t] = r - 1 := by omega
        refine ⟨.nx [.bo (nD l), .sh (.int (r : Int)), .ow (nD (l.take t ++ [0] ++ List.replicate k 0)), .sh (.int (t : Int))], ?_, .sh (.int (t : Int)), ?_, ?_⟩
        · simp only [runDef, cInA, cNinA, inD, itD, fItA, eItA, cLtA, fRr1, fRr2, opInt, sPar, fCallD, fRaise0, fRaise1, sTryAs, sTry, aftr, noX, allEq_const, fXf, fXi, fLc, lcL, unE, tYs, Vs.ret, xLock, inis, bof, sNil, sSeq, sAsg, sRet, sRetV, sRetN, sIf, sDrop, sTg, sFor, sBrk, sCnt, sApp, sExt, sOwn, sSetI, opSetI, sLock, unlk, sbnd, bnd, fOp, fCh, fCl, fCall, fLst, fTup, fSl, fIf, fAnd, fOr, fNot, fTru, fAndV, fOrV, fNotV, fNeg, fIsi, fM1, fM2, fRg1, fRg2, fEn, fRev, fSg, fTp, fIt, eIt, eB, eV, eC, frz, shm, aCons, aNil, poN, poS, Rs.d, Rs.sl, vB, List.cons_append, List.nil_append, List.append_nil, List.replicate_zero, List.replicate_succ, List.getElem?_cons_zero, List.getElem?_cons_succ, List.set_cons_zero, List.set_cons_succ, List.length_cons, List.length_nil, opLen, lenD, opList, opAdd, opSub, opMul, opMod, opDiv, opPow, opMin, opMax, opIx, opSl, cmpB, cEq, cNe, cIsN, cNotN, truD, tgN, tgT, setAll, isKd, opFind, opFind3, opStarts, opStarts3, Nat.reduceLT, Nat.reduceAdd, Nat.reduceSub, Nat.reduceLeDiff, Int.reduceLT, Int.reduceLE, Int.reduceNeg, reduceIte, and_self, true_and, and_true, decide_true, decide_false, Int.toNat_natCast, hat, hix, hs1, i1_next_cells, decide_eq_false hin', hs2]
        · rw [Nat.zero_add, show l.length - (k + 1) = t by omega, List.replicate_succ, List.append_assoc]
          rfl
        · rw [Nat.zero_add, show l.length - (k + 1) = t by omega, hdt, hl1, List.replicate_succ]) (fun e _ => .inl ⟨e, rfl⟩)
  rw [nD_len] at h1
  rw [nD_len, h1]
  rcases h2 with ⟨e, rfl⟩ | ⟨l', rfl, h3⟩
  · right; simp only [runDef, cInA, cNinA, inD, itD, fItA, eItA, cLtA, fRr1, fRr2, opInt, sPar, fCallD, fRaise0, fRaise1, sTryAs, sTry, aftr, noX, allEq_const, fXf, fXi, fLc, lcL, unE, tYs, Vs.ret, xLock, inis, bof, sNil, sSeq, sAsg, sRet, sRetV, sRetN, sIf, sDrop, sTg, sFor, sBrk, sCnt, sApp, sExt, sOwn, sSetI, opSetI, sLock, unlk, sbnd, bnd, fOp, fCh, fCl, fCall, fLst, fTup, fSl, fIf, fAnd, fOr, fNot, fTru, fAndV, fOrV, fNotV, fNeg, fIsi, fM1, fM2, fRg1, fRg2, fEn, fRev, fSg, fTp, fIt, eIt, eB, eV, eC, frz, shm, aCons, aNil, poN, poS, Rs.d, Rs.sl, vB, List.cons_append, List.nil_append, List.append_nil, List.replicate_zero, List.replicate_succ, List.getElem?_cons_zero, List.getElem?_cons_succ, List.set_cons_zero, List.set_cons_succ, List.length_cons, List.length_nil, opLen, lenD, opList, opAdd, opSub, opMul, opMod, opDiv, opPow, opMin, opMax, opIx, opSl, cmpB, cEq, cNe, cIsN, cNotN, truD, tgN, tgT, setAll, isKd, opFind, opFind3, opStarts, opStarts3, Nat.reduceLT, Nat.reduceAdd, Nat.reduceSub, Nat.reduceLeDiff, Int.reduceLT, Int.reduceLE, Int.reduceNeg, reduceIte, and_self, true_and, and_true, decide_true, decide_false, Int.toNat_natCast]
  · left; exact ⟨l', rfl, h3⟩
theorem e_first {r m : Nat} {L1 : List Nat} (pairs : List D) (hr : 0 < r) (hr8 : r ≤ 8) (hm : m ≤ 6) (hp : ∀ p ∈ L1, p < m) (hn : r ^ (r * m) ≤ 1000) : g_first_table [.int (r : Int), .int (m : Int), .lst pairs, .lst (nD L1), .lst (nD L1)] = some (.rt (.sh .non)) := by
  unfold g_first_table b_first_table
  have hrm : r * m ≤ 48 := Nat.mul_le_mul hr8 hm
  have e1 : (r : Int) * (m : Int) = ((r * m : Nat) : Int) := by rw [Int.natCast_mul]
  have z1 : (0 : Int) ≤ ((r * m : Nat) : Int) ∧ ((r * m : Nat) : Int) ≤ 100000 ∧ 1 * (r * m) ≤ szl := by
    refine ⟨Int.natCast_nonneg _, by omega, by show 1 * (r * m) ≤ 1000000; omega⟩
  have e2 : (List.replicate (r * m) [D.int 0]).flatten = nD (List.replicate (r * m) 0) := by
    unfold nD
    rw [List.map_replicate]
    generalize r * m = n
    induction n with
    | zero => rfl
    | succ n ih => rw [List.replicate_succ, List.flatten_cons, ih, List.replicate_succ]; rfl
  simp only [runDef, cInA, cNinA, inD, itD, fItA, eItA, cLtA, fRr1, fRr2, opInt, sPar, fCallD, fRaise0, fRaise1, sTryAs, sTry, aftr, noX, allEq_const, fXf, fXi, fLc, lcL, unE, tYs, Vs.ret, xLock, inis, bof, sNil, sSeq, sAsg, sRet, sRetV, sRetN, sIf, sDrop, sTg, sFor, sBrk, sCnt, sApp, sExt, sOwn, sSetI, opSetI, sLock, unlk, sbnd, bnd, fOp, fCh, fCl, fCall, fLst, fTup, fSl, fIf, fAnd, fOr, fNot, fTru, fAndV, fOrV, fNotV, fNeg, fIsi, fM1, fM2, fRg1, fRg2, fEn, fRev, fSg, fTp, fIt, eIt, eB, eV, eC, frz, shm, aCons, aNil, poN, poS, Rs.d, Rs.sl, vB, List.cons_append, List.nil_append, List.append_nil, List.replicate_zero, List.replicate_succ, List.getElem?_cons_zero, List.getElem?_cons_succ, List.set_cons_zero, List.set_cons_succ, List.length_cons, List.length_nil, opLen, lenD, opList, opAdd, opSub, opMul, opMod, opDiv, opPow, opMin, opMax, opIx, opSl, cmpB, cEq, cNe, cIsN, cNotN, truD, tgN, tgT, setAll, isKd, opFind, opFind3, opStarts, opStarts3, Nat.reduceLT, Nat.reduceAdd, Nat.reduceSub, Nat.reduceLeDiff, Int.reduceLT, Int.reduceLE, Int.reduceNeg, reduceIte, and_self, true_and, and_true, decide_true, decide_false, Int.toNat_natCast, bits9 (show r ≤ 100000 by omega) (show m ≤ 100000 by omega), e1, show (1 : Nat) ≤ szl by decide, Nat.reduceAdd, z1, e2]
  obtain ⟨o, h1, h2⟩ := whL_out (t := w1_first_table) (body := l1_first_table) (fun k e => (k = 0 ∧ e = [.sh (.int (r : Int)), .sh (.int (m : Int)), .bo pairs, .bo (nD L1), .bo (nD L1), .sh .non, .un]) ∨
      ∃ l : List Nat, e = [.sh (.int (r : Int)), .sh (.int (m : Int)), .bo pairs, .bo (nD L1), .bo (nD L1), .ow (nD l), .un] ∧ l.length = r * m ∧ (∀ c ∈ l, c < r) ∧ k + val r l = r ^ (r * m)) (fun o => ∃ e, o = .nx e)
    (fun k e h => by
      rcases h with ⟨rfl, rfl⟩ | ⟨l, rfl, hl, hc, hk⟩
      · left
        exact ⟨_, rfl, _, rfl⟩
      · right
        refine ⟨_, rfl, ?_⟩
        obtain ⟨q, hq⟩ := e_end (room := 0) hl hc hp hr (by omega) (by omega)
        have hq' : g_end_of [.lst (nD l), .int (m : Int), .int 0, .lst (nD L1)] = some (.rt (.sh (.int q))) := hq
        have hlt : val r l < r ^ (r * m) := by
          have := valF_lt r hr l 0 hc
          rw [hl] at this
          show valF r 0 l < _
          simpa using this
        unfold l1_first_table i2_first_table
        rcases e_next hr (by omega) (show l.length ≤ 1000 by omega) hc with ⟨l', g1, g2, g3, g4⟩ | g1
        · simp only [runDef, cInA, cNinA, inD, itD, fItA, eItA, cLtA, fRr1, fRr2, opInt, sPar, fCallD, fRaise0, fRaise1, sTryAs, sTry, aftr, noX, allEq_const, fXf, fXi, fLc, lcL, unE, tYs, Vs.ret, xLock, inis, bof, sNil, sSeq, sAsg, sRet, sRetV, sRetN, sIf, sDrop, sTg, sFor, sBrk, sCnt, sApp, sExt, sOwn, sSetI, opSetI, sLock, unlk, sbnd, bnd, fOp, fCh, fCl, fCall, fLst, fTup, fSl, fIf, fAnd, fOr, fNot, fTru, fAndV, fOrV, fNotV, fNeg, fIsi, fM1, fM2, fRg1, fRg2, fEn, fRev, fSg, fTp, fIt, eIt, eB, eV, eC, frz, shm, aCons, aNil, poN, poS, Rs.d, Rs.sl, vB, List.cons_append, List.nil_append, List.append_nil, List.replicate_zero, List.replicate_succ, List.getElem?_cons_zero, List.getElem?_cons_succ, List.set_cons_zero, List.set_cons_succ, List.length_cons, List.length_nil, opLen, lenD, opList, opAdd, opSub, opMul, opMod, opDiv, opPow, opMin, opMax, opIx, opSl, cmpB, cEq, cNe, cIsN, cNotN, truD, tgN, tgT, setAll, isKd, opFind, opFind3, opStarts, opStarts3, Nat.reduceLT, Nat.reduceAdd, Nat.reduceSub, Nat.reduceLeDiff, Int.reduceLT, Int.reduceLE, Int.reduceNeg, reduceIte, and_self, true_and, and_true, decide_true, decide_false, Int.toNat_natCast, hq', Bool.not_true, g1]
          exact ⟨_, rfl, k - 1, by omega, .inr ⟨l', rfl, by omega, g3, by omega⟩⟩
        · simp only [runDef, cInA, cNinA, inD, itD, fItA, eItA, cLtA, fRr1, fRr2, opInt, sPar, fCallD, fRaise0, fRaise1, sTryAs, sTry, aftr, noX, allEq_const, fXf, fXi, fLc, lcL, unE, tYs, Vs.ret, xLock, inis, bof, sNil, sSeq, sAsg, sRet, sRetV, sRetN, sIf, sDrop, sTg, sFor, sBrk, sCnt, sApp, sExt, sOwn, sSetI, opSetI, sLock, unlk, sbnd, bnd, fOp, fCh, fCl, fCall, fLst, fTup, fSl, fIf, fAnd, fOr, fNot, fTru, fAndV, fOrV, fNotV, fNeg, fIsi, fM1, fM2, fRg1, fRg2, fEn, fRev, fSg, fTp, fIt, eIt, eB, eV, eC, frz, shm, aCons, aNil, poN, poS, Rs.d, Rs.sl, vB, List.cons_append, List.nil_append, List.append_nil, List.replicate_zero, List.replicate_succ, List.getElem?_cons_zero, List.getElem?_cons_succ, List.set_cons_zero, List.set_cons_succ, List.length_cons, List.length_nil, opLen, lenD, opList, opAdd, opSub, opMul, opMod, opDiv, opPow, opMin, opMax, opIx, opSl, cmpB, cEq, cNe, cIsN, cNotN, truD, tgN, tgT, setAll, isKd, opFind, opFind3, opStarts, opStarts3, Nat.reduceLT, Nat.reduceAdd, Nat.reduceSub, Nat.reduceLeDiff, Int.reduceLT, Int.reduceLE, Int.reduceNeg, reduceIte, and_self, true_and, and_true, decide_true, decide_false, Int.toNat_natCast, hq', Bool.not_true, g1]
          exact ⟨_, rfl, 0, by omega, .inl ⟨rfl, rfl⟩⟩) 100000 (r ^ (r * m)) _ (by omega) (.inr ⟨List.replicate (r * m) 0, rfl, List.length_replicate .., fun c hc => by rw [(List.mem_replicate.mp hc).2]; exact hr, by
        show _ + valF r 0 _ = _
        rw [valF_zero]; omega⟩)
  obtain ⟨e, rfl⟩ := h2
  have h3 : whL fuel w1_first_table l1_first_table [.sh (.int (r : Int)), .sh (.int (m : Int)), .bo pairs, .bo (nD L1), .bo (nD L1), .ow (nD (List.replicate (r * m) 0)), .un] = some (.nx e) := h1
  rw [h3]
theorem e_tables {L : List Nat} {r m : Nat} (hm : L.length = m) (hm6 : m ≤ 6) (hr : 0 < r) (hr8 : r ≤ 8) : g_tables_within [.str L, .int (r : Int)] = some (.rt (.sh (.bl (decide (r ^ (r * m) ≤ 1000))))) := by
  unfold g_tables_within b_tables_within
  have zL : L.length ≤ szl := by show _ ≤ 1000000; omega
  have hrm : r * m ≤ 48 := Nat.mul_le_mul hr8 hm6
  have e1 : (r : Int) * (L.length : Int) = ((r * m : Nat) : Int) := by rw [hm, Int.natCast_mul]
  have hm2 : ((r * m : Nat) : Int) ≤ 1000000 ∧ -1000000 ≤ ((r * m : Nat) : Int) := by omega
  simp only [runDef, cInA, cNinA, inD, itD, fItA, eItA, cLtA, fRr1, fRr2, opInt, sPar, fCallD, fRaise0, fRaise1, sTryAs, sTry, aftr, noX, allEq_const, fXf, fXi, fLc, lcL, unE, tYs, Vs.ret, xLock, inis, bof, sNil, sSeq, sAsg, sRet, sRetV, sRetN, sIf, sDrop, sTg, sFor, sBrk, sCnt, sApp, sExt, sOwn, sSetI, opSetI, sLock, unlk, sbnd, bnd, fOp, fCh, fCl, fCall, fLst, fTup, fSl, fIf, fAnd, fOr, fNot, fTru, fAndV, fOrV, fNotV, fNeg, fIsi, fM1, fM2, fRg1, fRg2, fEn, fRev, fSg, fTp, fIt, eIt, eB, eV, eC, frz, shm, aCons, aNil, poN, poS, Rs.d, Rs.sl, vB, List.cons_append, List.nil_append, List.append_nil, List.replicate_zero, List.replicate_succ, List.getElem?_cons_zero, List.getElem?_cons_succ, List.set_cons_zero, List.set_cons_succ, List.length_cons, List.length_nil, opLen, lenD, opList, opAdd, opSub, opMul, opMod, opDiv, opPow, opMin, opMax, opIx, opSl, cmpB, cEq, cNe, cIsN, cNotN, truD, tgN, tgT, setAll, isKd, opFind, opFind3, opStarts, opStarts3, Nat.reduceLT, Nat.reduceAdd, Nat.reduceSub, Nat.reduceLeDiff, Int.reduceLT, Int.reduceLE, Int.reduceNeg, reduceIte, and_self, true_and, and_true, decide_true, decide_false, Int.toNat_natCast, zL, bits9 (show r ≤ 100000 by omega) (show L.length ≤ 100000 by omega), e1, hm2]
  obtain ⟨o, h1, h2⟩ := forL_out (tg := tgN 3) (body := l1_tables_within) (fun k e => ∃ s, e = [.sh (.str L), .sh (.int (r : Int)), .sh (.int ((r ^ k : Nat) : Int)), s] ∧ r ^ k ≤ 1000)
    (fun o => (o = .rt (.sh (.bl false)) ∧ ¬ r ^ (r * m) ≤ 1000) ∨ ((∃ e, o = .nx e) ∧ r ^ (r * m) ≤ 1000))
    (rng 0 (r * m)) 0 [.sh (.str L), .sh (.int (r : Int)), .sh (.int 1), .un] ⟨.un, rfl, by rw [Nat.pow_zero]; decide⟩ (fun k d e hd ⟨s, he, hk⟩ => by
      obtain ⟨hi, rfl⟩ := rng_get hd
      rw [Nat.zero_add] at he hk
      subst he
      refine ⟨_, rfl, ?_⟩
      have e2 : ((r ^ k : Nat) : Int) * (r : Int) = ((r ^ (k + 1) : Nat) : Int) := by rw [Nat.pow_succ, Int.natCast_mul]
      unfold l1_tables_within
      by_cases h : r ^ (k + 1) ≤ 1000
      · have h' : ¬ (1000 : Int) < ((r ^ (k + 1) : Nat) : Int) := by omega
        simp only [runDef, cInA, cNinA, inD, itD, fItA, eItA, cLtA, fRr1, fRr2, opInt, sPar, fCallD, fRaise0, fRaise1, sTryAs, sTry, aftr, noX, allEq_const, fXf, fXi, fLc, lcL, unE, tYs, Vs.ret, xLock, inis, bof, sNil, sSeq, sAsg, sRet, sRetV, sRetN, sIf, sDrop, sTg, sFor, sBrk, sCnt, sApp, sExt, sOwn, sSetI, opSetI, sLock, unlk, sbnd, bnd, fOp, fCh, fCl, fCall, fLst, fTup, fSl, fIf, fAnd, fOr, fNot, fTru, fAndV, fOrV, fNotV, fNeg, fIsi, fM1, fM2, fRg1, fRg2, fEn, fRev, fSg, fTp, fIt, eIt, eB, eV, eC, frz, shm, aCons, aNil, poN, poS, Rs.d, Rs.sl, vB, List.cons_append, List.nil_append, List.append_nil, List.replicate_zero, List.replicate_succ, List.getElem?_cons_zero, List.getElem?_cons_succ, List.set_cons_zero, List.set_cons_succ, List.length_cons, List.length_nil, opLen, lenD, opList, opAdd, opSub, opMul, opMod, opDiv, opPow, opMin, opMax, opIx, opSl, cmpB, cEq, cNe, cIsN, cNotN, truD, tgN, tgT, setAll, isKd, opFind, opFind3, opStarts, opStarts3, Nat.reduceLT, Nat.reduceAdd, Nat.reduceSub, Nat.reduceLeDiff, Int.reduceLT, Int.reduceLE, Int.reduceNeg, reduceIte, and_self, true_and, and_true, decide_true, decide_false, Int.toNat_natCast, bits9 (show r ^ k ≤ 100000 by omega) (show r ≤ 100000 by omega), e2, i1_tables_within, decide_eq_false h']
        exact ⟨_, rfl, _, by rw [Nat.zero_add], by rw [Nat.zero_add]; exact h⟩
      · have h' : (1000 : Int) < ((r ^ (k + 1) : Nat) : Int) := by omega
        simp only [runDef, cInA, cNinA, inD, itD, fItA, eItA, cLtA, fRr1, fRr2, opInt, sPar, fCallD, fRaise0, fRaise1, sTryAs, sTry, aftr, noX, allEq_const, fXf, fXi, fLc, lcL, unE, tYs, Vs.ret, xLock, inis, bof, sNil, sSeq, sAsg, sRet, sRetV, sRetN, sIf, sDrop, sTg, sFor, sBrk, sCnt, sApp, sExt, sOwn, sSetI, opSetI, sLock, unlk, sbnd, bnd, fOp, fCh, fCl, fCall, fLst, fTup, fSl, fIf, fAnd, fOr, fNot, fTru, fAndV, fOrV, fNotV, fNeg, fIsi, fM1, fM2, fRg1, fRg2, fEn, fRev, fSg, fTp, fIt, eIt, eB, eV, eC, frz, shm, aCons, aNil, poN, poS, Rs.d, Rs.sl, vB, List.cons_append, List.nil_append, List.append_nil, List.replicate_zero, List.replicate_succ, List.getElem?_cons_zero, List.getElem?_cons_succ, List.set_cons_zero, List.set_cons_succ, List.length_cons, List.length_nil, opLen, lenD, opList, opAdd, opSub, opMul, opMod, opDiv, opPow, opMin, opMax, opIx, opSl, cmpB, cEq, cNe, cIsN, cNotN, truD, tgN, tgT, setAll, isKd, opFind, opFind3, opStarts, opStarts3, Nat.reduceLT, Nat.reduceAdd, Nat.reduceSub, Nat.reduceLeDiff, Int.reduceLT, Int.reduceLE, Int.reduceNeg, reduceIte, and_self, true_and, and_true, decide_true, decide_false, Int.toNat_natCast, bits9 (show r ^ k ≤ 100000 by omega) (show r ≤ 100000 by omega), e2, i1_tables_within, decide_eq_true h']
        refine ⟨_, rfl, .inl ⟨rfl, fun z => h ?_⟩⟩
        exact Nat.le_trans (Nat.pow_le_pow_right hr (by omega)) z) (fun e ⟨s, he, hk⟩ => .inr ⟨⟨e, rfl⟩, by
        rw [rng_len, Nat.zero_add] at hk
        exact hk⟩)
  have h3 : forL (tgN 3) l1_tables_within (rng 0 (((r * m : Nat) : Int)).toNat) [.sh (.str L), .sh (.int (r : Int)), .sh (.int 1), .un] = some o := h1
  rw [Int.toNat_natCast] at h3
  rw [h3]
  rcases h2 with ⟨rfl, h⟩ | ⟨⟨e, rfl⟩, h⟩
  · rw [decide_eq_false h]
  · simp only [runDef, cInA, cNinA, inD, itD, fItA, eItA, cLtA, fRr1, fRr2, opInt, sPar, fCallD, fRaise0, fRaise1, sTryAs, sTry, aftr, noX, allEq_const, fXf, fXi, fLc, lcL, unE, tYs, Vs.ret, xLock, inis, bof, sNil, sSeq, sAsg, sRet, sRetV, sRetN, sIf, sDrop, sTg, sFor, sBrk, sCnt, sApp, sExt, sOwn, sSetI, opSetI, sLock, unlk, sbnd, bnd, fOp, fCh, fCl, fCall, fLst, fTup, fSl, fIf, fAnd, fOr, fNot, fTru, fAndV, fOrV, fNotV, fNeg, fIsi, fM1, fM2, fRg1, fRg2, fEn, fRev, fSg, fTp, fIt, eIt, eB, eV, eC, frz, shm, aCons, aNil, poN, poS, Rs.d, Rs.sl, vB, List.cons_append, List.nil_append, List.append_nil, List.replicate_zero, List.replicate_succ, List.getElem?_cons_zero, List.getElem?_cons_succ, List.set_cons_zero, List.set_cons_succ, List.length_cons, List.length_nil, opLen, lenD, opList, opAdd, opSub, opMul, opMod, opDiv, opPow, opMin, opMax, opIx, opSl, cmpB, cEq, cNe, cIsN, cNotN, truD, tgN, tgT, setAll, isKd, opFind, opFind3, opStarts, opStarts3, Nat.reduceLT, Nat.reduceAdd, Nat.reduceSub, Nat.reduceLeDiff, Int.reduceLT, Int.reduceLE, Int.reduceNeg, reduceIte, and_self, true_and, and_true, decide_true, decide_false, Int.toNat_natCast, decide_eq_true h]
theorem e_within {r m : Nat} (hm6 : m ≤ 6) (hr8 : r ≤ 8) : g_law_within [.int (r : Int), .int (m : Int)] = some (.rt (.sh (.bl (decide (r ^ (r * m) ≤ 1000))))) := by
  unfold g_law_within b_law_within
  have hrm : r * m ≤ 48 := Nat.mul_le_mul hr8 hm6
  have e1 : (r : Int) * (m : Int) = ((r * m : Nat) : Int) := by rw [Int.natCast_mul]
  have hm2 : ((r * m : Nat) : Int) ≤ 1000000 ∧ -1000000 ≤ ((r * m : Nat) : Int) := by omega
  simp only [runDef, cInA, cNinA, inD, itD, fItA, eItA, cLtA, fRr1, fRr2, opInt, sPar, fCallD, fRaise0, fRaise1, sTryAs, sTry, aftr, noX, allEq_const, fXf, fXi, fLc, lcL, unE, tYs, Vs.ret, xLock, inis, bof, sNil, sSeq, sAsg, sRet, sRetV, sRetN, sIf, sDrop, sTg, sFor, sBrk, sCnt, sApp, sExt, sOwn, sSetI, opSetI, sLock, unlk, sbnd, bnd, fOp, fCh, fCl, fCall, fLst, fTup, fSl, fIf, fAnd, fOr, fNot, fTru, fAndV, fOrV, fNotV, fNeg, fIsi, fM1, fM2, fRg1, fRg2, fEn, fRev, fSg, fTp, fIt, eIt, eB, eV, eC, frz, shm, aCons, aNil, poN, poS, Rs.d, Rs.sl, vB, List.cons_append, List.nil_append, List.append_nil, List.replicate_zero, List.replicate_succ, List.getElem?_cons_zero, List.getElem?_cons_succ, List.set_cons_zero, List.set_cons_succ, List.length_cons, List.length_nil, opLen, lenD, opList, opAdd, opSub, opMul, opMod, opDiv, opPow, opMin, opMax, opIx, opSl, cmpB, cEq, cNe, cIsN, cNotN, truD, tgN, tgT, setAll, isKd, opFind, opFind3, opStarts, opStarts3, Nat.reduceLT, Nat.reduceAdd, Nat.reduceSub, Nat.reduceLeDiff, Int.reduceLT, Int.reduceLE, Int.reduceNeg, reduceIte, and_self, true_and, and_true, decide_true, decide_false, Int.toNat_natCast, bits9 (show r ≤ 100000 by omega) (show m ≤ 100000 by omega), e1, hm2]
  obtain ⟨e', h1, s, rfl⟩ := forL_inv (tg := tgN 3) (body := l1_law_within) (fun k e => ∃ s, e = [.sh (.int (r : Int)), .sh (.int (m : Int)), .sh (.int ((r ^ k : Nat) : Int)), s])
    (rng 0 (r * m)) [.sh (.int (r : Int)), .sh (.int (m : Int)), .sh (.int 1), .un] ⟨.un, rfl⟩ (fun k d e hd ⟨s, he⟩ => by
      obtain ⟨hi, rfl⟩ := rng_get hd
      subst he
      refine ⟨_, rfl, ?_⟩
      have e2 : ((r ^ k : Nat) : Int) * (r : Int) = ((r ^ (k + 1) : Nat) : Int) := by rw [Nat.pow_succ, Int.natCast_mul]
      have hb : r ^ k < 2 ^ 150 := by
        refine Nat.lt_of_le_of_lt (Nat.pow_le_pow_left hr8 k) (Nat.lt_of_le_of_lt (Nat.pow_le_pow_right (by decide) (show k ≤ 48 by omega)) (by decide))
      have bb : Builtin.Int.intBits ((r ^ k : Nat) : Int) + Builtin.Int.intBits (r : Int) ≤ 134217728 := by
        have h1 : Builtin.Int.intBits ((r ^ k : Nat) : Int) ≤ 150 := PyProof.Rows.intBits_le (show ((r ^ k : Nat) : Int).natAbs < 2 ^ 150 by rw [Int.natAbs_natCast]; exact hb)
        have h2 : Builtin.Int.intBits (r : Int) ≤ 32 := PyProof.Rows.intBits_le (show (r : Int).natAbs < 2 ^ 32 by omega)
        omega
      unfold l1_law_within
      simp only [runDef, cInA, cNinA, inD, itD, fItA, eItA, cLtA, fRr1, fRr2, opInt, sPar, fCallD, fRaise0, fRaise1, sTryAs, sTry, aftr, noX, allEq_const, fXf, fXi, fLc, lcL, unE, tYs, Vs.ret, xLock, inis, bof, sNil, sSeq, sAsg, sRet, sRetV, sRetN, sIf, sDrop, sTg, sFor, sBrk, sCnt, sApp, sExt, sOwn, sSetI, opSetI, sLock, unlk, sbnd, bnd, fOp, fCh, fCl, fCall, fLst, fTup, fSl, fIf, fAnd, fOr, fNot, fTru, fAndV, fOrV, fNotV, fNeg, fIsi, fM1, fM2, fRg1, fRg2, fEn, fRev, fSg, fTp, fIt, eIt, eB, eV, eC, frz, shm, aCons, aNil, poN, poS, Rs.d, Rs.sl, vB, List.cons_append, List.nil_append, List.append_nil, List.replicate_zero, List.replicate_succ, List.getElem?_cons_zero, List.getElem?_cons_succ, List.set_cons_zero, List.set_cons_succ, List.length_cons, List.length_nil, opLen, lenD, opList, opAdd, opSub, opMul, opMod, opDiv, opPow, opMin, opMax, opIx, opSl, cmpB, cEq, cNe, cIsN, cNotN, truD, tgN, tgT, setAll, isKd, opFind, opFind3, opStarts, opStarts3, Nat.reduceLT, Nat.reduceAdd, Nat.reduceSub, Nat.reduceLeDiff, Int.reduceLT, Int.reduceLE, Int.reduceNeg, reduceIte, and_self, true_and, and_true, decide_true, decide_false, Int.toNat_natCast, bb, e2]
      exact ⟨_, rfl, _, rfl⟩)
  rw [h1, rng_len]
  have e3 : decide (((r ^ (r * m) : Nat) : Int) ≤ 1000) = decide (r ^ (r * m) ≤ 1000) := by
    rw [decide_eq_decide]
    omega
  simp only [runDef, cInA, cNinA, inD, itD, fItA, eItA, cLtA, fRr1, fRr2, opInt, sPar, fCallD, fRaise0, fRaise1, sTryAs, sTry, aftr, noX, allEq_const, fXf, fXi, fLc, lcL, unE, tYs, Vs.ret, xLock, inis, bof, sNil, sSeq, sAsg, sRet, sRetV, sRetN, sIf, sDrop, sTg, sFor, sBrk, sCnt, sApp, sExt, sOwn, sSetI, opSetI, sLock, unlk, sbnd, bnd, fOp, fCh, fCl, fCall, fLst, fTup, fSl, fIf, fAnd, fOr, fNot, fTru, fAndV, fOrV, fNotV, fNeg, fIsi, fM1, fM2, fRg1, fRg2, fEn, fRev, fSg, fTp, fIt, eIt, eB, eV, eC, frz, shm, aCons, aNil, poN, poS, Rs.d, Rs.sl, vB, List.cons_append, List.nil_append, List.append_nil, List.replicate_zero, List.replicate_succ, List.getElem?_cons_zero, List.getElem?_cons_succ, List.set_cons_zero, List.set_cons_succ, List.length_cons, List.length_nil, opLen, lenD, opList, opAdd, opSub, opMul, opMod, opDiv, opPow, opMin, opMax, opIx, opSl, cmpB, cEq, cNe, cIsN, cNotN, truD, tgN, tgT, setAll, isKd, opFind, opFind3, opStarts, opStarts3, Nat.reduceLT, Nat.reduceAdd, Nat.reduceSub, Nat.reduceLeDiff, Int.reduceLT, Int.reduceLE, Int.reduceNeg, reduceIte, and_self, true_and, and_true, decide_true, decide_false, Int.toNat_natCast, e3]

theorem seq_nx {a b : Ss} {e e1 : En} (h : a e = some (.nx e1)) : sSeq a b e = b e1 := by unfold sSeq; rw [h]
theorem for_ok {mi : Sm (List D)} {tg : D → En → Option En} {body : Ss} {ds : List D} {e e1 : En} (h : mi e = some (.ok ds e1)) : sFor mi tg body e = forL tg body ds e1 := by unfold sFor sbnd; rw [h]
theorem run_rt {ms : List Bool} {k : Nat} {b : Ss} {ds : List D} {r : Rs} {e : En} (he : inis ms ds ++ List.replicate k .un = e) (h : b e = some (.rt r)) : runDef ms k b ds = some (.rt r) := by unfold runDef; rw [he, h]
theorem w_B (L w : List Nat) (most : Int) (pacts : List (List Nat × List Nat)) (hL : L.length ≤ 1000) (hpa : pacts.length ≤ 1) (hp : ∀ p ∈ pacts, (p.1.length ≤ 100 ∧ ∀ c ∈ p.1, c ∈ L) ∧ p.2.length ≤ 100 ∧ ∀ c ∈ p.2, c ∈ L) : ∃ pairs, sAsg 5 (xLock 1 (fLc (eItA 1) (tgN 8) (tYs) (fTup (aCons (frz (fCall g_places_of (aCons (eB 0) (aCons (fOp opIx (eB 8) (eC (.int 0))) (aNil))))) (aCons (frz (fCall g_places_of (aCons (eB 0) (aCons (fOp opIx (eB 8) (eC (.int 1))) (aNil))))) (aNil)))) [8])) [.sh (.str L), .bo (pacts.map fun p => .tup [.str p.1, .str p.2]), .sh (.str w), .sh (.str w), .sh (.int most), .un, .un, .un, .un] =
    some (.nx [.sh (.str L), .bo (pacts.map fun p => .tup [.str p.1, .str p.2]), .sh (.str w), .sh (.str w), .sh (.int most), .ow pairs, .un, .un, .un]) := by
  rcases pacts with _ | ⟨p, t⟩
  · exact ⟨[], by
      simp only [runDef, cInA, cNinA, inD, itD, fItA, eItA, cLtA, fRr1, fRr2, opInt, sPar, fCallD, fRaise0, fRaise1, sTryAs, sTry, aftr, noX, allEq_const, fXf, fXi, fLc, lcL, unE, tYs, Vs.ret, xLock, inis, bof, sNil, sSeq, sAsg, sRet, sRetV, sRetN, sIf, sDrop, sTg, sFor, sBrk, sCnt, sApp, sExt, sOwn, sSetI, opSetI, sLock, unlk, sbnd, bnd, fOp, fCh, fCl, fCall, fLst, fTup, fSl, fIf, fAnd, fOr, fNot, fTru, fAndV, fOrV, fNotV, fNeg, fIsi, fM1, fM2, fRg1, fRg2, fEn, fRev, fSg, fTp, fIt, eIt, eB, eV, eC, frz, shm, aCons, aNil, poN, poS, Rs.d, Rs.sl, vB, List.cons_append, List.nil_append, List.append_nil, List.replicate_zero, List.replicate_succ, List.getElem?_cons_zero, List.getElem?_cons_succ, List.set_cons_zero, List.set_cons_succ, List.length_cons, List.length_nil, opLen, lenD, opList, opAdd, opSub, opMul, opMod, opDiv, opPow, opMin, opMax, opIx, opSl, cmpB, cEq, cNe, cIsN, cNotN, truD, tgN, tgT, setAll, isKd, opFind, opFind3, opStarts, opStarts3, Nat.reduceLT, Nat.reduceAdd, Nat.reduceSub, Nat.reduceLeDiff, Int.reduceLT, Int.reduceLE, Int.reduceNeg, reduceIte, and_self, true_and, and_true, decide_true, decide_false, Int.toNat_natCast, List.map_nil, show (0 : Nat) ≤ szl by decide]⟩
  · rcases t with _ | ⟨q, t⟩
    · obtain ⟨⟨a1, a2⟩, a3, a4⟩ := hp p List.mem_cons_self
      obtain ⟨p1, hp1, _⟩ := e_places L p.1 (by omega) a2
      obtain ⟨p2, hp2, _⟩ := e_places L p.2 (by omega) a4
      have t2 : ∀ x y : D, atI [x, y] 0 = some x ∧ atI [x, y] 1 = some y := fun _ _ => ⟨rfl, rfl⟩
      refine ⟨[.tup [.lst (nD p1), .lst (nD p2)]], ?_⟩
      simp only [runDef, cInA, cNinA, inD, itD, fItA, eItA, cLtA, fRr1, fRr2, opInt, sPar, fCallD, fRaise0, fRaise1, sTryAs, sTry, aftr, noX, allEq_const, fXf, fXi, fLc, lcL, unE, tYs, Vs.ret, xLock, inis, bof, sNil, sSeq, sAsg, sRet, sRetV, sRetN, sIf, sDrop, sTg, sFor, sBrk, sCnt, sApp, sExt, sOwn, sSetI, opSetI, sLock, unlk, sbnd, bnd, fOp, fCh, fCl, fCall, fLst, fTup, fSl, fIf, fAnd, fOr, fNot, fTru, fAndV, fOrV, fNotV, fNeg, fIsi, fM1, fM2, fRg1, fRg2, fEn, fRev, fSg, fTp, fIt, eIt, eB, eV, eC, frz, shm, aCons, aNil, poN, poS, Rs.d, Rs.sl, vB, List.cons_append, List.nil_append, List.append_nil, List.replicate_zero, List.replicate_succ, List.getElem?_cons_zero, List.getElem?_cons_succ, List.set_cons_zero, List.set_cons_succ, List.length_cons, List.length_nil, opLen, lenD, opList, opAdd, opSub, opMul, opMod, opDiv, opPow, opMin, opMax, opIx, opSl, cmpB, cEq, cNe, cIsN, cNotN, truD, tgN, tgT, setAll, isKd, opFind, opFind3, opStarts, opStarts3, Nat.reduceLT, Nat.reduceAdd, Nat.reduceSub, Nat.reduceLeDiff, Int.reduceLT, Int.reduceLE, Int.reduceNeg, reduceIte, and_self, true_and, and_true, decide_true, decide_false, Int.toNat_natCast, List.map_cons, List.map_nil, show (1 : Nat) ≤ szl by decide, show (2 : Nat) ≤ szl by decide, (t2 _ _).1, (t2 _ _).2, hp1, hp2]
    · rw [List.length_cons, List.length_cons] at hpa
      omega
/-! the search goes through -/
theorem e_world {L w : List Nat} {m most : Nat} (pacts : List (List Nat × List Nat)) (hm : L.length = m) (hm6 : m ≤ 6) (hmost : most ≤ 8) (hpa : pacts.length ≤ 1) (hw : w.length ≤ 100 ∧ ∀ c ∈ w, c ∈ L) (hp : ∀ p ∈ pacts, (p.1.length ≤ 100 ∧ ∀ c ∈ p.1, c ∈ L) ∧ p.2.length ≤ 100 ∧ ∀ c ∈ p.2, c ∈ L)
    (hn : most ^ (most * m) ≤ 1000) (ht : g_tables_within [.str L, .int (most : Int)] = some (.rt (.sh (.bl true)))) : g_world_apart [.str L, .lst (pacts.map fun p => .tup [.str p.1, .str p.2]), .str w, .str w, .int (most : Int)] = some (.rt (.sh .non)) := by
  obtain ⟨Mo, hMo⟩ : ∃ Mo : Int, Mo = (most : Int) := ⟨_, rfl⟩
  rw [← hMo] at ht ⊢
  unfold g_world_apart b_world_apart
  have zL : L.length ≤ szl := by show _ ≤ 1000000; omega
  obtain ⟨ps, hps, hps2⟩ := e_places L w (by omega) hw.2
  have hm2 : (Mo + 1 ≤ 1000000 ∧ -1000000 ≤ Mo + 1) ∧ (1 : Int) ≤ 1000000 ∧ -1000000 ≤ (1 : Int) := by omega
  have et : (Mo + 1 - 1).toNat = most := by omega
  have loop : ∀ (A : Sl) (pairs : List D) (s6 s7 s8 : Sl), ∃ e, forL (tgN 6) l1_world_apart (rng 1 most) [.sh (.str L), A, .sh (.str w), .sh (.str w), .sh (.int Mo), .ow pairs, s6, s7, s8] = some (.nx e) := fun A pairs s6 s7 s8 => by
    obtain ⟨e', h1, h2⟩ := forL_inv (tg := tgN 6) (body := l1_world_apart) (fun i e => ∃ s6 s7 s8, e = [.sh (.str L), A, .sh (.str w), .sh (.str w), .sh (.int Mo), .ow pairs, s6, s7, s8]) (rng 1 most) _ ⟨s6, s7, s8, rfl⟩ (fun i d e hd ⟨s6, s7, s8, he⟩ => by
      obtain ⟨hi, rfl⟩ := rng_get hd
      subst he
      refine ⟨_, rfl, ?_⟩
      have e1 : (1 : Int) + (i : Int) = ((1 + i : Nat) : Int) := by omega
      have hpow : (1 + i) ^ ((1 + i) * m) ≤ 1000 := by
        refine Nat.le_trans ?_ hn
        exact Nat.le_trans (Nat.pow_le_pow_left (by omega) _) (Nat.pow_le_pow_right (by omega) (Nat.mul_le_mul_right m (by omega)))
      have ef := e_first (r := 1 + i) (m := m) (L1 := ps) pairs (by omega) (by omega) hm6 (fun p hp => hm ▸ hps2 p hp) hpow
      have ef' : g_first_table [.int ((1 + i : Nat) : Int), .int (L.length : Int), .lst pairs, .lst (nD ps), .lst (nD ps)] = some (.rt (.sh .non)) := by rw [hm]; exact ef
      unfold l1_world_apart
      simp only [runDef, cInA, cNinA, inD, itD, fItA, eItA, cLtA, fRr1, fRr2, opInt, sPar, fCallD, fRaise0, fRaise1, sTryAs, sTry, aftr, noX, allEq_const, fXf, fXi, fLc, lcL, unE, tYs, Vs.ret, xLock, inis, bof, sNil, sSeq, sAsg, sRet, sRetV, sRetN, sIf, sDrop, sTg, sFor, sBrk, sCnt, sApp, sExt, sOwn, sSetI, opSetI, sLock, unlk, sbnd, bnd, fOp, fCh, fCl, fCall, fLst, fTup, fSl, fIf, fAnd, fOr, fNot, fTru, fAndV, fOrV, fNotV, fNeg, fIsi, fM1, fM2, fRg1, fRg2, fEn, fRev, fSg, fTp, fIt, eIt, eB, eV, eC, frz, shm, aCons, aNil, poN, poS, Rs.d, Rs.sl, vB, List.cons_append, List.nil_append, List.append_nil, List.replicate_zero, List.replicate_succ, List.getElem?_cons_zero, List.getElem?_cons_succ, List.set_cons_zero, List.set_cons_succ, List.length_cons, List.length_nil, opLen, lenD, opList, opAdd, opSub, opMul, opMod, opDiv, opPow, opMin, opMax, opIx, opSl, cmpB, cEq, cNe, cIsN, cNotN, truD, tgN, tgT, setAll, isKd, opFind, opFind3, opStarts, opStarts3, Nat.reduceLT, Nat.reduceAdd, Nat.reduceSub, Nat.reduceLeDiff, Int.reduceLT, Int.reduceLE, Int.reduceNeg, reduceIte, and_self, true_and, and_true, decide_true, decide_false, Int.toNat_natCast, e1, zL, hps, ef', i2_world_apart, cNotN, Bool.not_true, Bool.false_eq_true]
      exact ⟨_, rfl, _, _, _, rfl⟩)
    exact ⟨e', h1⟩
  have hi1 : ∀ A s5 s6 s7 s8 : Sl, i1_world_apart [.sh (.str L), A, .sh (.str w), .sh (.str w), .sh (.int Mo), s5, s6, s7, s8] = some (.nx [.sh (.str L), A, .sh (.str w), .sh (.str w), .sh (.int Mo), s5, s6, s7, s8]) := fun A s5 s6 s7 s8 => by
    unfold i1_world_apart
    simp only [runDef, cInA, cNinA, inD, itD, fItA, eItA, cLtA, fRr1, fRr2, opInt, sPar, fCallD, fRaise0, fRaise1, sTryAs, sTry, aftr, noX, allEq_const, fXf, fXi, fLc, lcL, unE, tYs, Vs.ret, xLock, inis, bof, sNil, sSeq, sAsg, sRet, sRetV, sRetN, sIf, sDrop, sTg, sFor, sBrk, sCnt, sApp, sExt, sOwn, sSetI, opSetI, sLock, unlk, sbnd, bnd, fOp, fCh, fCl, fCall, fLst, fTup, fSl, fIf, fAnd, fOr, fNot, fTru, fAndV, fOrV, fNotV, fNeg, fIsi, fM1, fM2, fRg1, fRg2, fEn, fRev, fSg, fTp, fIt, eIt, eB, eV, eC, frz, shm, aCons, aNil, poN, poS, Rs.d, Rs.sl, vB, List.cons_append, List.nil_append, List.append_nil, List.replicate_zero, List.replicate_succ, List.getElem?_cons_zero, List.getElem?_cons_succ, List.set_cons_zero, List.set_cons_succ, List.length_cons, List.length_nil, opLen, lenD, opList, opAdd, opSub, opMul, opMod, opDiv, opPow, opMin, opMax, opIx, opSl, cmpB, cEq, cNe, cIsN, cNotN, truD, tgN, tgT, setAll, isKd, opFind, opFind3, opStarts, opStarts3, Nat.reduceLT, Nat.reduceAdd, Nat.reduceSub, Nat.reduceLeDiff, Int.reduceLT, Int.reduceLE, Int.reduceNeg, reduceIte, and_self, true_and, and_true, decide_true, decide_false, Int.toNat_natCast, ht, Bool.not_true]
  obtain ⟨pairs, hB⟩ := w_B L w Mo pacts (by omega) hpa hp
  obtain ⟨e, he⟩ := loop (.bo (pacts.map fun p => .tup [.str p.1, .str p.2])) pairs .un .un .un
  have hC : (fRg2 (aCons (eC (.int 1)) (aCons (frz (fOp opAdd (eB 4) (eC (.int 1)))) (aNil)))) [.sh (.str L), .bo (pacts.map fun p => .tup [.str p.1, .str p.2]), .sh (.str w), .sh (.str w), .sh (.int Mo), .ow pairs, .un, .un, .un] =
      some (.ok (rng 1 most) [.sh (.str L), .bo (pacts.map fun p => .tup [.str p.1, .str p.2]), .sh (.str w), .sh (.str w), .sh (.int Mo), .ow pairs, .un, .un, .un]) := by
    simp only [runDef, cInA, cNinA, inD, itD, fItA, eItA, cLtA, fRr1, fRr2, opInt, sPar, fCallD, fRaise0, fRaise1, sTryAs, sTry, aftr, noX, allEq_const, fXf, fXi, fLc, lcL, unE, tYs, Vs.ret, xLock, inis, bof, sNil, sSeq, sAsg, sRet, sRetV, sRetN, sIf, sDrop, sTg, sFor, sBrk, sCnt, sApp, sExt, sOwn, sSetI, opSetI, sLock, unlk, sbnd, bnd, fOp, fCh, fCl, fCall, fLst, fTup, fSl, fIf, fAnd, fOr, fNot, fTru, fAndV, fOrV, fNotV, fNeg, fIsi, fM1, fM2, fRg1, fRg2, fEn, fRev, fSg, fTp, fIt, eIt, eB, eV, eC, frz, shm, aCons, aNil, poN, poS, Rs.d, Rs.sl, vB, List.cons_append, List.nil_append, List.append_nil, List.replicate_zero, List.replicate_succ, List.getElem?_cons_zero, List.getElem?_cons_succ, List.set_cons_zero, List.set_cons_succ, List.length_cons, List.length_nil, opLen, lenD, opList, opAdd, opSub, opMul, opMod, opDiv, opPow, opMin, opMax, opIx, opSl, cmpB, cEq, cNe, cIsN, cNotN, truD, tgN, tgT, setAll, isKd, opFind, opFind3, opStarts, opStarts3, Nat.reduceLT, Nat.reduceAdd, Nat.reduceSub, Nat.reduceLeDiff, Int.reduceLT, Int.reduceLE, Int.reduceNeg, reduceIte, and_self, true_and, and_true, decide_true, decide_false, Int.toNat_natCast, hm2, et]
  refine run_rt (e := [.sh (.str L), .bo (pacts.map fun p => .tup [.str p.1, .str p.2]), .sh (.str w), .sh (.str w), .sh (.int Mo), .un, .un, .un, .un]) rfl ?_
  rw [seq_nx (hi1 _ _ _ _ _), seq_nx hB, seq_nx ((for_ok hC).trans he)]
  rfl

/-! k66, the law -/
theorem e_refused {L w o : List Nat} {Mo : Int} (pacts : List D) (ht : g_tables_within [.str L, .int Mo] = some (.rt (.sh (.bl false)))) : g_law_refused [.str L, .lst pacts, .str w, .str o, .int Mo] = some (.rt (.sh (.bl true))) := by
  have hw : g_world_apart [.str L, .lst pacts, .str w, .str o, .int Mo] = some (.ex ⟨2, none⟩) := by
    unfold g_world_apart b_world_apart
    simp only [runDef, cInA, cNinA, inD, itD, fItA, eItA, cLtA, fRr1, fRr2, opInt, sPar, fCallD, fRaise0, fRaise1, sTryAs, sTry, aftr, noX, allEq_const, fXf, fXi, fLc, lcL, unE, tYs, Vs.ret, xLock, inis, bof, sNil, sSeq, sAsg, sRet, sRetV, sRetN, sIf, sDrop, sTg, sFor, sBrk, sCnt, sApp, sExt, sOwn, sSetI, opSetI, sLock, unlk, sbnd, bnd, fOp, fCh, fCl, fCall, fLst, fTup, fSl, fIf, fAnd, fOr, fNot, fTru, fAndV, fOrV, fNotV, fNeg, fIsi, fM1, fM2, fRg1, fRg2, fEn, fRev, fSg, fTp, fIt, eIt, eB, eV, eC, frz, shm, aCons, aNil, poN, poS, Rs.d, Rs.sl, vB, List.cons_append, List.nil_append, List.append_nil, List.replicate_zero, List.replicate_succ, List.getElem?_cons_zero, List.getElem?_cons_succ, List.set_cons_zero, List.set_cons_succ, List.length_cons, List.length_nil, opLen, lenD, opList, opAdd, opSub, opMul, opMod, opDiv, opPow, opMin, opMax, opIx, opSl, cmpB, cEq, cNe, cIsN, cNotN, truD, tgN, tgT, setAll, isKd, opFind, opFind3, opStarts, opStarts3, Nat.reduceLT, Nat.reduceAdd, Nat.reduceSub, Nat.reduceLeDiff, Int.reduceLT, Int.reduceLE, Int.reduceNeg, reduceIte, and_self, true_and, and_true, decide_true, decide_false, Int.toNat_natCast, i1_world_apart, ht, Bool.not_false]
  unfold g_law_refused b_law_refused
  have k1 : xs 2 0 = some true := rfl
  have k2 : ks 2 2 = some true := rfl
  have k3 : ks 2 1000 = some true := rfl
  have k4 : ks 2 1 = some false := rfl
  simp only [runDef, cInA, cNinA, inD, itD, fItA, eItA, cLtA, fRr1, fRr2, opInt, sPar, fCallD, fRaise0, fRaise1, sTryAs, sTry, aftr, noX, allEq_const, fXf, fXi, fLc, lcL, unE, tYs, Vs.ret, xLock, inis, bof, sNil, sSeq, sAsg, sRet, sRetV, sRetN, sIf, sDrop, sTg, sFor, sBrk, sCnt, sApp, sExt, sOwn, sSetI, opSetI, sLock, unlk, sbnd, bnd, fOp, fCh, fCl, fCall, fLst, fTup, fSl, fIf, fAnd, fOr, fNot, fTru, fAndV, fOrV, fNotV, fNeg, fIsi, fM1, fM2, fRg1, fRg2, fEn, fRev, fSg, fTp, fIt, eIt, eB, eV, eC, frz, shm, aCons, aNil, poN, poS, Rs.d, Rs.sl, vB, List.cons_append, List.nil_append, List.append_nil, List.replicate_zero, List.replicate_succ, List.getElem?_cons_zero, List.getElem?_cons_succ, List.set_cons_zero, List.set_cons_succ, List.length_cons, List.length_nil, opLen, lenD, opList, opAdd, opSub, opMul, opMod, opDiv, opPow, opMin, opMax, opIx, opSl, cmpB, cEq, cNe, cIsN, cNotN, truD, tgN, tgT, setAll, isKd, opFind, opFind3, opStarts, opStarts3, Nat.reduceLT, Nat.reduceAdd, Nat.reduceSub, Nat.reduceLeDiff, Int.reduceLT, Int.reduceLE, Int.reduceNeg, reduceIte, and_self, true_and, and_true, decide_true, decide_false, Int.toNat_natCast, y1_law_refused, hw, k1, z1_law_refused, k2, k3, k4, if_true, Bool.not_false]
theorem law_true : LawTrue g_law := by
  intro ns hl hb
  unfold g_law b_law
  have c0 := e_cell ns 0
  have c1 := e_cell ns 1
  simp only [Int.cast_ofNat_Int] at c0 c1
  have c0' : g_law_cell_at [.scr ns, .int 0] = some (.rt (.sh (.int (c15 ns 0)))) := c0
  have c1' : g_law_cell_at [.scr ns, .int 1] = some (.rt (.sh (.int (c15 ns 1)))) := c1
  obtain ⟨F, hF⟩ : ∃ F, F = c15 ns 0 := ⟨_, rfl⟩
  rw [← hF] at c0'
  obtain ⟨C, hC⟩ : ∃ C, C = c15 ns 1 := ⟨_, rfl⟩
  have C0 := c15_lo ns 1
  rw [← hC] at c1' C0
  have hi1 : ∃ (Mo : Int) (most m : Nat), i1_law [.sh (.scr ns), .sh (.int F), .sh (.int (1 + F % 6)), .sh (.int (1 + F / 6 % 8)), .un, .un, .un, .un, .un, .un, .un, .un] =
      some (.nx [.sh (.scr ns), .sh (.int F), .sh (.int (m : Int)), .sh (.int Mo), .un, .un, .un, .un, .un, .un, .un, .un]) ∧ Mo = (most : Int) ∧ 0 < most ∧ most ≤ 8 ∧ 0 < m ∧ m ≤ 6 := by
    unfold i1_law
    by_cases h : F / 48 % 2 = 1
    · have hx : ∃ (most m : Nat), atI [D.tup [.int 3, .int 2], D.tup [.int 2, .int 5], D.tup [.int 2, .int 4], D.tup [.int 4, .int 1], D.tup [.int 5, .int 1], D.tup [.int 2, .int 6], D.tup [.int 3, .int 3]] (F / 96 % 7) = some (.tup [.int (most : Int), .int (m : Int)]) ∧ 0 < most ∧ most ≤ 8 ∧ 0 < m ∧ m ≤ 6 := by
        have h7 : F / 96 % 7 = 0 ∨ F / 96 % 7 = 1 ∨ F / 96 % 7 = 2 ∨ F / 96 % 7 = 3 ∨ F / 96 % 7 = 4 ∨ F / 96 % 7 = 5 ∨ F / 96 % 7 = 6 := by omega
        rcases h7 with h | h | h | h | h | h | h <;> rw [h]
        · exact ⟨3, 2, rfl, by decide⟩
        · exact ⟨2, 5, rfl, by decide⟩
        · exact ⟨2, 4, rfl, by decide⟩
        · exact ⟨4, 1, rfl, by decide⟩
        · exact ⟨5, 1, rfl, by decide⟩
        · exact ⟨2, 6, rfl, by decide⟩
        · exact ⟨3, 3, rfl, by decide⟩
      obtain ⟨most, m, hx, h1, h2, h3, h4⟩ := hx
      simp only [runDef, cInA, cNinA, inD, itD, fItA, eItA, cLtA, fRr1, fRr2, opInt, sPar, fCallD, fRaise0, fRaise1, sTryAs, sTry, aftr, noX, allEq_const, fXf, fXi, fLc, lcL, unE, tYs, Vs.ret, xLock, inis, bof, sNil, sSeq, sAsg, sRet, sRetV, sRetN, sIf, sDrop, sTg, sFor, sBrk, sCnt, sApp, sExt, sOwn, sSetI, opSetI, sLock, unlk, sbnd, bnd, fOp, fCh, fCl, fCall, fLst, fTup, fSl, fIf, fAnd, fOr, fNot, fTru, fAndV, fOrV, fNotV, fNeg, fIsi, fM1, fM2, fRg1, fRg2, fEn, fRev, fSg, fTp, fIt, eIt, eB, eV, eC, frz, shm, aCons, aNil, poN, poS, Rs.d, Rs.sl, vB, List.cons_append, List.nil_append, List.append_nil, List.replicate_zero, List.replicate_succ, List.getElem?_cons_zero, List.getElem?_cons_succ, List.set_cons_zero, List.set_cons_succ, List.length_cons, List.length_nil, opLen, lenD, opList, opAdd, opSub, opMul, opMod, opDiv, opPow, opMin, opMax, opIx, opSl, cmpB, cEq, cNe, cIsN, cNotN, truD, tgN, tgT, setAll, isKd, opFind, opFind3, opStarts, opStarts3, Nat.reduceLT, Nat.reduceAdd, Nat.reduceSub, Nat.reduceLeDiff, Int.reduceLT, Int.reduceLE, Int.reduceNeg, reduceIte, and_self, true_and, and_true, decide_true, decide_false, Int.toNat_natCast, decide_eq_true h, show (0 : Int) < 48 ∧ (48 : Int) < 1000000000000 by decide, show (0 : Int) < 96 ∧ (96 : Int) < 1000000000000 by decide, show (2 : Nat) ≤ szl by decide, show (7 : Nat) ≤ szl by decide, hx]
      exact ⟨_, most, m, rfl, rfl, h1, h2, h3, h4⟩
    · simp only [runDef, cInA, cNinA, inD, itD, fItA, eItA, cLtA, fRr1, fRr2, opInt, sPar, fCallD, fRaise0, fRaise1, sTryAs, sTry, aftr, noX, allEq_const, fXf, fXi, fLc, lcL, unE, tYs, Vs.ret, xLock, inis, bof, sNil, sSeq, sAsg, sRet, sRetV, sRetN, sIf, sDrop, sTg, sFor, sBrk, sCnt, sApp, sExt, sOwn, sSetI, opSetI, sLock, unlk, sbnd, bnd, fOp, fCh, fCl, fCall, fLst, fTup, fSl, fIf, fAnd, fOr, fNot, fTru, fAndV, fOrV, fNotV, fNeg, fIsi, fM1, fM2, fRg1, fRg2, fEn, fRev, fSg, fTp, fIt, eIt, eB, eV, eC, frz, shm, aCons, aNil, poN, poS, Rs.d, Rs.sl, vB, List.cons_append, List.nil_append, List.append_nil, List.replicate_zero, List.replicate_succ, List.getElem?_cons_zero, List.getElem?_cons_succ, List.set_cons_zero, List.set_cons_succ, List.length_cons, List.length_nil, opLen, lenD, opList, opAdd, opSub, opMul, opMod, opDiv, opPow, opMin, opMax, opIx, opSl, cmpB, cEq, cNe, cIsN, cNotN, truD, tgN, tgT, setAll, isKd, opFind, opFind3, opStarts, opStarts3, Nat.reduceLT, Nat.reduceAdd, Nat.reduceSub, Nat.reduceLeDiff, Int.reduceLT, Int.reduceLE, Int.reduceNeg, reduceIte, and_self, true_and, and_true, decide_true, decide_false, Int.toNat_natCast, decide_eq_false h, show (0 : Int) < 48 ∧ (48 : Int) < 1000000000000 by decide]
      refine ⟨1 + F / 6 % 8, (1 + F / 6 % 8).toNat, (1 + F % 6).toNat, ?_, by omega, by omega, by omega, by omega, by omega⟩
      rw [show (((1 + F % 6).toNat : Nat) : Int) = 1 + F % 6 by omega]
  obtain ⟨Mo, most, m, hi1, hMo, hm1, hm2, hm3, hm4⟩ := hi1
  obtain ⟨L, hL, hL1, _⟩ := e_letters (F / 672) m (by omega)
  have ew : g_law_within [.int Mo, .int (L.length : Int)] = some (.rt (.sh (.bl (decide (most ^ (most * m) ≤ 1000))))) := by rw [hL1, hMo]; exact e_within hm4 hm2
  have et := e_tables (L := L) (r := most) (m := m) hL1 hm4 hm1 hm2
  rw [← hMo] at et
  obtain ⟨k1, hk1, hk1'⟩ : ∃ k1 : Nat, C % 4 = (k1 : Int) ∧ k1 ≤ 4 := ⟨(C % 4).toNat, by omega, by omega⟩
  obtain ⟨k2, hk2, hk2'⟩ : ∃ k2 : Nat, C / 4 % 3 = (k2 : Int) ∧ k2 ≤ 4 := ⟨(C / 4 % 3).toNat, by omega, by omega⟩
  obtain ⟨k3, hk3, hk3'⟩ : ∃ k3 : Nat, C / 24 % 4 = (k3 : Int) ∧ k3 ≤ 4 := ⟨(C / 24 % 4).toNat, by omega, by omega⟩
  obtain ⟨w, hw, lw, mw⟩ := e_word L (C * 48271 % 1000003) k1 (by omega) (by omega) (by omega)
  obtain ⟨a, ha, la, ma⟩ := e_word L (C * 69621 % 999983) k2 (by omega) (by omega) (by omega)
  obtain ⟨o, ho, lo, mo⟩ := e_word L (C * 69621 % 999983) k3 (by omega) (by omega) (by omega)
  have b1 := bits15 C0.1 C0.2 (show Builtin.Int.intBits 48271 ≤ 1000 by decide)
  have b2 := bits15 C0.1 C0.2 (show Builtin.Int.intBits 69621 ≤ 1000 by decide)
  have zL : L.length ≤ szl := by show _ ≤ 1000000; omega
  have hl0 : (0 : Int) < (L.length : Int) := by omega
  have p1 := Int.emod_nonneg C (show (L.length : Int) ≠ 0 by omega)
  have p2 := Int.emod_lt_of_pos C hl0
  have hk : (C % (L.length : Int)).toNat < L.length := by omega
  have d6 : (0 : Int) < 6 ∧ (6 : Int) < 1000000000000 := by decide
  have d672 : (0 : Int) < 672 ∧ (672 : Int) < 1000000000000 := by decide
  have d4 : (0 : Int) < 4 ∧ (4 : Int) < 1000000000000 := by decide
  have d12 : (0 : Int) < 12 ∧ (12 : Int) < 1000000000000 := by decide
  have d24 : (0 : Int) < 24 ∧ (24 : Int) < 1000000000000 := by decide
  obtain ⟨P, hP⟩ : ∃ P : List Nat × List Nat, P = (a, [L[(C % (L.length : Int)).toNat]]) := ⟨_, rfl⟩
  have hPD : D.tup [.str a, .str [L[(C % (L.length : Int)).toNat]]] = .tup [.str P.1, .str P.2] := by rw [hP]
  have hPm : (P.1.length ≤ 100 ∧ ∀ c ∈ P.1, c ∈ L) ∧ P.2.length ≤ 100 ∧ ∀ c ∈ P.2, c ∈ L := by
    rw [hP]
    refine ⟨⟨by dsimp only; omega, ma⟩, by simp, fun c hc => ?_⟩
    rw [List.mem_singleton.mp hc]
    exact List.getElem_mem hk
  have cc := Int.emod_two_eq (C / 12)
  by_cases hn : most ^ (most * m) ≤ 1000
  · rw [decide_eq_true hn] at ew et
    have et' := et
    rw [hMo] at et'
    have w0 := e_world (L := L) (w := w) (m := m) (most := most) [] hL1 hm4 hm2 (by simp) ⟨by omega, mw⟩ (fun p hp => nomatch hp) hn et'
    have w1 := e_world (L := L) (w := w) (m := m) (most := most) [P] hL1 hm4 hm2 (by simp) ⟨by omega, mw⟩ (fun p hp => by rw [List.mem_singleton.mp hp]; exact hPm) hn et'
    rw [← hMo] at w0 w1
    simp only [List.map_nil, List.map_cons] at w0 w1
    have a0 : ∀ x y : D, atI [x, y] 0 = some x := fun _ _ => rfl
    have a1 : ∀ x y : D, atI [x, y] 1 = some y := fun _ _ => rfl
    rcases cc with cc | cc
    · simp only [runDef, cInA, cNinA, inD, itD, fItA, eItA, cLtA, fRr1, fRr2, opInt, sPar, fCallD, fRaise0, fRaise1, sTryAs, sTry, aftr, noX, allEq_const, fXf, fXi, fLc, lcL, unE, tYs, Vs.ret, xLock, inis, bof, sNil, sSeq, sAsg, sRet, sRetV, sRetN, sIf, sDrop, sTg, sFor, sBrk, sCnt, sApp, sExt, sOwn, sSetI, opSetI, sLock, unlk, sbnd, bnd, fOp, fCh, fCl, fCall, fLst, fTup, fSl, fIf, fAnd, fOr, fNot, fTru, fAndV, fOrV, fNotV, fNeg, fIsi, fM1, fM2, fRg1, fRg2, fEn, fRev, fSg, fTp, fIt, eIt, eB, eV, eC, frz, shm, aCons, aNil, poN, poS, Rs.d, Rs.sl, vB, List.cons_append, List.nil_append, List.append_nil, List.replicate_zero, List.replicate_succ, List.getElem?_cons_zero, List.getElem?_cons_succ, List.set_cons_zero, List.set_cons_succ, List.length_cons, List.length_nil, opLen, lenD, opList, opAdd, opSub, opMul, opMod, opDiv, opPow, opMin, opMax, opIx, opSl, cmpB, cEq, cNe, cIsN, cNotN, truD, tgN, tgT, setAll, isKd, opFind, opFind3, opStarts, opStarts3, Nat.reduceLT, Nat.reduceAdd, Nat.reduceSub, Nat.reduceLeDiff, Int.reduceLT, Int.reduceLE, Int.reduceNeg, reduceIte, and_self, true_and, and_true, decide_true, decide_false, Int.toNat_natCast, c0', d6, hi1, d672, hL, zL, ew, et, i2_law, Bool.not_true, Bool.false_eq_true, c1', b1, b2, hk1, hk2, hw, ha, d4, hl0, atI_of L p1, List.getElem?_eq_getElem hk, hPD, i3_law, d12, cc, a0, show (0 : Nat) ≤ szl by decide, show (1 : Nat) ≤ szl by decide, show (2 : Nat) ≤ szl by decide, show (0 : Int) < 1000003 by decide, show (0 : Int) < 999983 by decide, w0]
    · simp only [runDef, cInA, cNinA, inD, itD, fItA, eItA, cLtA, fRr1, fRr2, opInt, sPar, fCallD, fRaise0, fRaise1, sTryAs, sTry, aftr, noX, allEq_const, fXf, fXi, fLc, lcL, unE, tYs, Vs.ret, xLock, inis, bof, sNil, sSeq, sAsg, sRet, sRetV, sRetN, sIf, sDrop, sTg, sFor, sBrk, sCnt, sApp, sExt, sOwn, sSetI, opSetI, sLock, unlk, sbnd, bnd, fOp, fCh, fCl, fCall, fLst, fTup, fSl, fIf, fAnd, fOr, fNot, fTru, fAndV, fOrV, fNotV, fNeg, fIsi, fM1, fM2, fRg1, fRg2, fEn, fRev, fSg, fTp, fIt, eIt, eB, eV, eC, frz, shm, aCons, aNil, poN, poS, Rs.d, Rs.sl, vB, List.cons_append, List.nil_append, List.append_nil, List.replicate_zero, List.replicate_succ, List.getElem?_cons_zero, List.getElem?_cons_succ, List.set_cons_zero, List.set_cons_succ, List.length_cons, List.length_nil, opLen, lenD, opList, opAdd, opSub, opMul, opMod, opDiv, opPow, opMin, opMax, opIx, opSl, cmpB, cEq, cNe, cIsN, cNotN, truD, tgN, tgT, setAll, isKd, opFind, opFind3, opStarts, opStarts3, Nat.reduceLT, Nat.reduceAdd, Nat.reduceSub, Nat.reduceLeDiff, Int.reduceLT, Int.reduceLE, Int.reduceNeg, reduceIte, and_self, true_and, and_true, decide_true, decide_false, Int.toNat_natCast, c0', d6, hi1, d672, hL, zL, ew, et, i2_law, Bool.not_true, Bool.false_eq_true, c1', b1, b2, hk1, hk2, hw, ha, d4, hl0, atI_of L p1, List.getElem?_eq_getElem hk, hPD, i3_law, d12, cc, a1, show (0 : Nat) ≤ szl by decide, show (1 : Nat) ≤ szl by decide, show (2 : Nat) ≤ szl by decide, show (0 : Int) < 1000003 by decide, show (0 : Int) < 999983 by decide, w1]
  · rw [decide_eq_false hn] at ew et
    have r0 := fun (x : List Nat) (q : List D) => e_refused (L := L) (w := w) (o := x) (Mo := Mo) q et
    have hi4 : ∃ x, i4_law [.sh (.scr ns), .sh (.int F), .sh (.int (m : Int)), .sh (.int Mo), .sh (.str L), .sh (.bl false), .sh (.bl false), .sh (.int C), .sh (.str w), .sh (.tup [.str P.1, .str P.2]), .sh (.str w), .un] =
        some (.nx [.sh (.scr ns), .sh (.int F), .sh (.int (m : Int)), .sh (.int Mo), .sh (.str L), .sh (.bl false), .sh (.bl false), .sh (.int C), .sh (.str w), .sh (.tup [.str P.1, .str P.2]), .sh (.str x), .un]) := by
      unfold i4_law
      by_cases h : C / 12 % 2 = 1
      · simp only [runDef, cInA, cNinA, inD, itD, fItA, eItA, cLtA, fRr1, fRr2, opInt, sPar, fCallD, fRaise0, fRaise1, sTryAs, sTry, aftr, noX, allEq_const, fXf, fXi, fLc, lcL, unE, tYs, Vs.ret, xLock, inis, bof, sNil, sSeq, sAsg, sRet, sRetV, sRetN, sIf, sDrop, sTg, sFor, sBrk, sCnt, sApp, sExt, sOwn, sSetI, opSetI, sLock, unlk, sbnd, bnd, fOp, fCh, fCl, fCall, fLst, fTup, fSl, fIf, fAnd, fOr, fNot, fTru, fAndV, fOrV, fNotV, fNeg, fIsi, fM1, fM2, fRg1, fRg2, fEn, fRev, fSg, fTp, fIt, eIt, eB, eV, eC, frz, shm, aCons, aNil, poN, poS, Rs.d, Rs.sl, vB, List.cons_append, List.nil_append, List.append_nil, List.replicate_zero, List.replicate_succ, List.getElem?_cons_zero, List.getElem?_cons_succ, List.set_cons_zero, List.set_cons_succ, List.length_cons, List.length_nil, opLen, lenD, opList, opAdd, opSub, opMul, opMod, opDiv, opPow, opMin, opMax, opIx, opSl, cmpB, cEq, cNe, cIsN, cNotN, truD, tgN, tgT, setAll, isKd, opFind, opFind3, opStarts, opStarts3, Nat.reduceLT, Nat.reduceAdd, Nat.reduceSub, Nat.reduceLeDiff, Int.reduceLT, Int.reduceLE, Int.reduceNeg, reduceIte, and_self, true_and, and_true, decide_true, decide_false, Int.toNat_natCast, decide_eq_true h, b2, hk3, ho, d12, d24, show (0 : Int) < 999983 by decide]
        exact ⟨o, rfl⟩
      · simp only [runDef, cInA, cNinA, inD, itD, fItA, eItA, cLtA, fRr1, fRr2, opInt, sPar, fCallD, fRaise0, fRaise1, sTryAs, sTry, aftr, noX, allEq_const, fXf, fXi, fLc, lcL, unE, tYs, Vs.ret, xLock, inis, bof, sNil, sSeq, sAsg, sRet, sRetV, sRetN, sIf, sDrop, sTg, sFor, sBrk, sCnt, sApp, sExt, sOwn, sSetI, opSetI, sLock, unlk, sbnd, bnd, fOp, fCh, fCl, fCall, fLst, fTup, fSl, fIf, fAnd, fOr, fNot, fTru, fAndV, fOrV, fNotV, fNeg, fIsi, fM1, fM2, fRg1, fRg2, fEn, fRev, fSg, fTp, fIt, eIt, eB, eV, eC, frz, shm, aCons, aNil, poN, poS, Rs.d, Rs.sl, vB, List.cons_append, List.nil_append, List.append_nil, List.replicate_zero, List.replicate_succ, List.getElem?_cons_zero, List.getElem?_cons_succ, List.set_cons_zero, List.set_cons_succ, List.length_cons, List.length_nil, opLen, lenD, opList, opAdd, opSub, opMul, opMod, opDiv, opPow, opMin, opMax, opIx, opSl, cmpB, cEq, cNe, cIsN, cNotN, truD, tgN, tgT, setAll, isKd, opFind, opFind3, opStarts, opStarts3, Nat.reduceLT, Nat.reduceAdd, Nat.reduceSub, Nat.reduceLeDiff, Int.reduceLT, Int.reduceLE, Int.reduceNeg, reduceIte, and_self, true_and, and_true, decide_true, decide_false, Int.toNat_natCast, decide_eq_false h, d12]
        exact ⟨w, rfl⟩
    obtain ⟨x, hi4⟩ := hi4
    simp only [runDef, cInA, cNinA, inD, itD, fItA, eItA, cLtA, fRr1, fRr2, opInt, sPar, fCallD, fRaise0, fRaise1, sTryAs, sTry, aftr, noX, allEq_const, fXf, fXi, fLc, lcL, unE, tYs, Vs.ret, xLock, inis, bof, sNil, sSeq, sAsg, sRet, sRetV, sRetN, sIf, sDrop, sTg, sFor, sBrk, sCnt, sApp, sExt, sOwn, sSetI, opSetI, sLock, unlk, sbnd, bnd, fOp, fCh, fCl, fCall, fLst, fTup, fSl, fIf, fAnd, fOr, fNot, fTru, fAndV, fOrV, fNotV, fNeg, fIsi, fM1, fM2, fRg1, fRg2, fEn, fRev, fSg, fTp, fIt, eIt, eB, eV, eC, frz, shm, aCons, aNil, poN, poS, Rs.d, Rs.sl, vB, List.cons_append, List.nil_append, List.append_nil, List.replicate_zero, List.replicate_succ, List.getElem?_cons_zero, List.getElem?_cons_succ, List.set_cons_zero, List.set_cons_succ, List.length_cons, List.length_nil, opLen, lenD, opList, opAdd, opSub, opMul, opMod, opDiv, opPow, opMin, opMax, opIx, opSl, cmpB, cEq, cNe, cIsN, cNotN, truD, tgN, tgT, setAll, isKd, opFind, opFind3, opStarts, opStarts3, Nat.reduceLT, Nat.reduceAdd, Nat.reduceSub, Nat.reduceLeDiff, Int.reduceLT, Int.reduceLE, Int.reduceNeg, reduceIte, and_self, true_and, and_true, decide_true, decide_false, Int.toNat_natCast, c0', d6, hi1, d672, hL, zL, ew, et, i2_law, Bool.not_true, Bool.false_eq_true, c1', b1, b2, hk1, hk2, hw, ha, d4, hl0, atI_of L p1, List.getElem?_eq_getElem hk, hPD, i3_law, hi4, r0, show (0 : Nat) ≤ szl by decide, show (1 : Nat) ≤ szl by decide, show (2 : Nat) ≤ szl by decide, show (0 : Int) < 1000003 by decide, show (0 : Int) < 999983 by decide]

end Lw

set_option Elab.async false
set_option linter.all false
set_option maxRecDepth 100000
set_option maxHeartbeats 4000000
namespace Lw
open PySem L2 Vs
def topS (i : Nat) : Stmt := PySem.Challenge.pw_letterlaw_k66_tables_within.main.body.getD i (.Pass ⟨0, 0, 0, 0⟩)
structure Txt (κ : Kx) (mg : Str → Option Value) : Prop where
  xf : κ.xf = xf
  g_LetterError : mg "LetterError" = some (.ref (κ.xc 0))
  g_NoWorld : mg "NoWorld" = some (.ref (κ.xc 1))
  g_TooMany : mg "TooMany" = some (.ref (κ.xc 2))
  e_TooMany : PySem.W.excIn κ.K (κ.xc 2) veB "ValueError.__new__" = true
  k_TooMany : PySem.W.keepIn κ.K (.ref (κ.xc 2)) = true
  b_TooMany : PySem.W.subIn κ.K (.ref (κ.xc 2)) (.type "BaseException") = some true
  t_TooMany : PySem.W.typeIn κ.K (.ref (κ.xc 2)) = some (.type "type")
  x_LetterError : XsOk κ xs 0
  isB : IsB κ.K
  i_NoWorld : KsOk κ [.ref (κ.xc 1)] (fun c => ks c 1)
  i_ValueError : KsOk κ [.type "ValueError"] (fun c => ks c 1000)
  i_TooMany : KsOk κ [.ref (κ.xc 2)] (fun c => ks c 2)
  d_tables_within : ∃ (f : Addr) (fd : FuncData), Fun κ.K "tables_within" "tables_within" (topS 6) f fd ∧ mg "tables_within" = some (.ref f)
  d_next_cells : ∃ (f : Addr) (fd : FuncData), Fun κ.K "next_cells" "next_cells" (topS 7) f fd ∧ mg "next_cells" = some (.ref f)
  d_places_of : ∃ (f : Addr) (fd : FuncData), Fun κ.K "places_of" "places_of" (topS 8) f fd ∧ mg "places_of" = some (.ref f)
  d_end_of : ∃ (f : Addr) (fd : FuncData), Fun κ.K "end_of" "end_of" (topS 9) f fd ∧ mg "end_of" = some (.ref f)
  d_keeps : ∃ (f : Addr) (fd : FuncData), Fun κ.K "keeps" "keeps" (topS 10) f fd ∧ mg "keeps" = some (.ref f)
  d_first_table : ∃ (f : Addr) (fd : FuncData), Fun κ.K "first_table" "first_table" (topS 11) f fd ∧ mg "first_table" = some (.ref f)
  d_world_apart : ∃ (f : Addr) (fd : FuncData), Fun κ.K "world_apart" "world_apart" (topS 12) f fd ∧ mg "world_apart" = some (.ref f)
  d_law_cell_at : ∃ (f : Addr) (fd : FuncData), Fun κ.K "_law_cell_at" "_law_cell_at" (topS 14) f fd ∧ mg "_law_cell_at" = some (.ref f)
  d_law_letters : ∃ (f : Addr) (fd : FuncData), Fun κ.K "_law_letters" "_law_letters" (topS 15) f fd ∧ mg "_law_letters" = some (.ref f)
  d_law_word : ∃ (f : Addr) (fd : FuncData), Fun κ.K "_law_word" "_law_word" (topS 16) f fd ∧ mg "_law_word" = some (.ref f)
  d_law_within : ∃ (f : Addr) (fd : FuncData), Fun κ.K "_law_within" "_law_within" (topS 17) f fd ∧ mg "_law_within" = some (.ref f)
  d_law_refused : ∃ (f : Addr) (fd : FuncData), Fun κ.K "_law_refused" "_law_refused" (topS 18) f fd ∧ mg "_law_refused" = some (.ref f)
  d_law : ∃ (f : Addr) (fd : FuncData), Fun κ.K "law" "law" (topS 19) f fd ∧ mg "law" = some (.ref f)
  z_len : mg "len" = none
  z_range : mg "range" = none
  m_MOST_TABLES : ∃ t, mg "MOST_TABLES" = some (.int 1000 t)
  z_list : mg "list" = none
  z_reversed : mg "reversed" = none
  z_isinstance : mg "isinstance" = none
  z_ValueError : mg "ValueError" = none
  z_bool : mg "bool" = none
section
variable {P : Program} {w : World} {κ : Kx} {mg : Str → Option Value} {base : Heap}
abbrev s_tables_within : Stmt := topS 6
theorem sc_tables_within : FnScope ["letters", "rooms", "count", "k"] ["letters", "rooms"] (defScope s_tables_within) := ⟨rfl, rfl, rfl, by decide +kernel, rfl, by decide +kernel, by decide +kernel⟩
theorem fn_tables_within {f : Addr} {fd : FuncData} (F : Fun κ.K "tables_within" "tables_within" s_tables_within f fd) (T : Txt κ mg) : FnOk P w κ.K mg base (L2.CX P w) 1 f fd ["letters", "rooms"] (spV κ [true, true] g_tables_within) := by
  have sc := sc_tables_within
  refine F.okX sc (fun vs H Q E h => spV_len h) fun cdv A outer s H vs Q E hr h => ⟨tS κ (fun c d _ H' => E c d H') b_tables_within, ?_, v_end (k := 2) rfl h⟩
  have tk : Takes (cxOf (L2.CX P w) P w κ.K mg base ["letters", "rooms", "count", "k"] "tables_within" (defScope s_tables_within) f cdv A outer s H E) (fun c d _ H' => E c d H') := takes_of rfl rfl rfl rfl
  have hp := passes_of (X := cxOf (L2.CX P w) P w κ.K mg base ["letters", "rooms", "count", "k"] "tables_within" (defScope s_tables_within) f cdv A outer s H E) rfl
  exact s_cons (s_asg (i := 2) sc.nd rfl (by first | exact Or.inl rfl | exact Or.inr rfl) (v_sh (v_int))) (s_cons (s_for hp rfl (i_rg1 rfl rfl T.z_range (a_bo (v_bo (v_frz (v_op o_mul s_mul (b_var (pv 1)) (v_bo (v_frz (v_callB call_len s_len rfl T.z_len PySem.boot_len (a_bo (b_var (pv 0)) (a_nil)))))))) (a_nil))) (pg_name (i := 3) sc.nd rfl (by first | exact Or.inl rfl | exact Or.inr rfl)) (tg_name 3) (s_cons (s_asg (i := 2) sc.nd rfl (by first | exact Or.inl rfl | exact Or.inr rfl) (v_op o_mul s_mul (b_var (pv 2)) (b_var (pv 1)))) (s_one (s_if (t_cmp o_gt s_cm (b_var (pv 2)) (v_bo (v_const (pe_glob (v := .int 1000) rfl T.m_MOST_TABLES.choose_spec ⟨_, rfl⟩) (fun _ => .int _))) (nomark _)) (s_one (s_ret (v_sh (v_bl)))) (s_nil))))) (s_one (s_ret (v_sh (v_bl)))))
theorem ok_tables_within (T : Txt κ mg) : VFn P w κ mg base "tables_within" 1 [true, true] g_tables_within := by
  obtain ⟨f, fd, F, hm⟩ := T.d_tables_within
  exact ⟨f, fd, ["letters", "rooms"], hm, F.kp, fn_tables_within F T, F.binds (ps := ["letters", "rooms"]) fun _ _ _ _ _ _ us hl => match us, hl with | [_, _], _ => rfl⟩
abbrev s_next_cells : Stmt := topS 7
theorem sc_next_cells : FnScope ["cells", "rooms", "left", "at"] ["cells", "rooms"] (defScope s_next_cells) := ⟨rfl, rfl, rfl, by decide +kernel, rfl, by decide +kernel, by decide +kernel⟩
theorem fn_next_cells {f : Addr} {fd : FuncData} (F : Fun κ.K "next_cells" "next_cells" s_next_cells f fd) (T : Txt κ mg) : FnOk P w κ.K mg base (L2.CX P w) 1 f fd ["cells", "rooms"] (spV κ [true, true] g_next_cells) := by
  have sc := sc_next_cells
  refine F.okX sc (fun vs H Q E h => spV_len h) fun cdv A outer s H vs Q E hr h => ⟨tS κ (fun c d _ H' => E c d H') b_next_cells, ?_, v_end (k := 2) rfl h⟩
  have tk : Takes (cxOf (L2.CX P w) P w κ.K mg base ["cells", "rooms", "left", "at"] "next_cells" (defScope s_next_cells) f cdv A outer s H E) (fun c d _ H' => E c d H') := takes_of rfl rfl rfl rfl
  have hp := passes_of (X := cxOf (L2.CX P w) P w κ.K mg base ["cells", "rooms", "left", "at"] "next_cells" (defScope s_next_cells) f cdv A outer s H E) rfl
  exact s_cons (s_asg (i := 2) sc.nd rfl (by first | exact Or.inl rfl | exact Or.inr rfl) (v_callTy call_list_of s_list rfl T.z_list (by decide +kernel) (a_bo (b_var (pv 0)) (a_nil)))) (s_cons (s_for hp rfl (i_rr1 rfl T.z_reversed rfl T.z_range (v_bo (v_frz (v_callB call_len s_len rfl T.z_len PySem.boot_len (a_bo (b_var (pv 0)) (a_nil)))))) (pg_name (i := 3) sc.nd rfl (by first | exact Or.inl rfl | exact Or.inr rfl)) (tg_name 3) (s_cons (s_setI (i := 2) (pv 2) (b_var (pv 3)) (v_frz (v_op o_add s_add (v_bo (v_ix rfl (b_var (pv 2)) (b_var (pv 3)) (fun _ _ => rfl))) (v_bo (v_int)))) (pg_sub (pv 2) (b_var (pv 3)) set_list)) (s_cons (s_if (t_cmp (o_ltA rfl hr.units) s_ltA (v_bo (v_ix rfl (b_var (pv 2)) (b_var (pv 3)) (fun _ _ => rfl))) (b_var (pv 1)) (nomark _)) (s_one (s_retV (pv 2))) (s_nil)) (s_one (s_setI (i := 2) (pv 2) (b_var (pv 3)) (v_int) (pg_sub (pv 2) (b_var (pv 3)) set_list)))))) (s_one (s_ret (v_sh (v_non)))))
theorem ok_next_cells (T : Txt κ mg) : VFn P w κ mg base "next_cells" 1 [true, true] g_next_cells := by
  obtain ⟨f, fd, F, hm⟩ := T.d_next_cells
  exact ⟨f, fd, ["cells", "rooms"], hm, F.kp, fn_next_cells F T, F.binds (ps := ["cells", "rooms"]) fun _ _ _ _ _ _ us hl => match us, hl with | [_, _], _ => rfl⟩
abbrev s_places_of : Stmt := topS 8
theorem sc_places_of : FnScope ["letters", "word", "letter"] ["letters", "word"] (defScope s_places_of) := ⟨rfl, rfl, rfl, by decide +kernel, rfl, by decide +kernel, by decide +kernel⟩
theorem fn_places_of {f : Addr} {fd : FuncData} (F : Fun κ.K "places_of" "places_of" s_places_of f fd) (T : Txt κ mg) : FnOk P w κ.K mg base (L2.CX P w) 1 f fd ["letters", "word"] (spV κ [true, true] g_places_of) := by
  have sc := sc_places_of
  refine F.okX sc (fun vs H Q E h => spV_len h) fun cdv A outer s H vs Q E hr h => ⟨tS κ (fun c d _ H' => E c d H') b_places_of, ?_, v_end (k := 1) rfl h⟩
  have tk : Takes (cxOf (L2.CX P w) P w κ.K mg base ["letters", "word", "letter"] "places_of" (defScope s_places_of) f cdv A outer s H E) (fun c d _ H' => E c d H') := takes_of rfl rfl rfl rfl
  have hp := passes_of (X := cxOf (L2.CX P w) P w κ.K mg base ["letters", "word", "letter"] "places_of" (defScope s_places_of) f cdv A outer s H E) rfl
  exact s_one (s_ret (v_lock (i := 1) (v_lc (own := [("letter", 2)]) (vs := [2]) rfl sc.nd rfl (i_anyN rfl (pv 1)) (blkOk_by (own := [("letter", 2)]) (N := ["letters", "word", "letter"]) (sc := defScope s_places_of) (by decide +kernel)) (fun _ _ _ _ _ => pg_name (i := 2) sc.nd rfl (by first | exact Or.inl rfl | exact Or.inr rfl)) (to_name 2 rfl) (fun _ _ _ _ _ => pts_yes) (fun _ _ _ _ _ => v_frz (v_find (b_var (pv 0)) (b_var (pv 2)))))))
theorem ok_places_of (T : Txt κ mg) : VFn P w κ mg base "places_of" 1 [true, true] g_places_of := by
  obtain ⟨f, fd, F, hm⟩ := T.d_places_of
  exact ⟨f, fd, ["letters", "word"], hm, F.kp, fn_places_of F T, F.binds (ps := ["letters", "word"]) fun _ _ _ _ _ _ us hl => match us, hl with | [_, _], _ => rfl⟩
abbrev s_end_of : Stmt := topS 9
theorem sc_end_of : FnScope ["cells", "size", "room", "places", "place"] ["cells", "size", "room", "places"] (defScope s_end_of) := ⟨rfl, rfl, rfl, by decide +kernel, rfl, by decide +kernel, by decide +kernel⟩
theorem fn_end_of {f : Addr} {fd : FuncData} (F : Fun κ.K "end_of" "end_of" s_end_of f fd) (T : Txt κ mg) : FnOk P w κ.K mg base (L2.CX P w) 1 f fd ["cells", "size", "room", "places"] (spV κ [true, true, false, true] g_end_of) := by
  have sc := sc_end_of
  refine F.okX sc (fun vs H Q E h => spV_len h) fun cdv A outer s H vs Q E hr h => ⟨tS κ (fun c d _ H' => E c d H') b_end_of, ?_, v_end (k := 1) rfl h⟩
  have tk : Takes (cxOf (L2.CX P w) P w κ.K mg base ["cells", "size", "room", "places", "place"] "end_of" (defScope s_end_of) f cdv A outer s H E) (fun c d _ H' => E c d H') := takes_of rfl rfl rfl rfl
  have hp := passes_of (X := cxOf (L2.CX P w) P w κ.K mg base ["cells", "size", "room", "places", "place"] "end_of" (defScope s_end_of) f cdv A outer s H E) rfl
  exact s_cons (s_lock (i := 3) (s_for hp rfl (i_anyN rfl (pv 3)) (pg_name (i := 4) sc.nd rfl (by first | exact Or.inl rfl | exact Or.inr rfl)) (tg_name 4) (s_one (s_asg (i := 2) sc.nd rfl (by first | exact Or.inl rfl | exact Or.inr rfl) (v_sh (v_ix rfl (b_var (pv 0)) (v_bo (v_frz (v_op o_add s_add (v_bo (v_frz (v_op o_mul s_mul (b_var (pv 2)) (b_var (pv 1))))) (b_var (pv 4))))) (fun _ _ => rfl))))))) (s_one (s_retV (pv 2)))
theorem ok_end_of (T : Txt κ mg) : VFn P w κ mg base "end_of" 1 [true, true, false, true] g_end_of := by
  obtain ⟨f, fd, F, hm⟩ := T.d_end_of
  exact ⟨f, fd, ["cells", "size", "room", "places"], hm, F.kp, fn_end_of F T, F.binds (ps := ["cells", "size", "room", "places"]) fun _ _ _ _ _ _ us hl => match us, hl with | [_, _, _, _], _ => rfl⟩
abbrev s_keeps : Stmt := topS 10
theorem sc_keeps : FnScope ["cells", "size", "rooms", "pairs", "one", "other", "room"] ["cells", "size", "rooms", "pairs"] (defScope s_keeps) := ⟨rfl, rfl, rfl, by decide +kernel, rfl, by decide +kernel, by decide +kernel⟩
theorem fn_keeps {f : Addr} {fd : FuncData} (F : Fun κ.K "keeps" "keeps" s_keeps f fd) (T : Txt κ mg) (K_end_of : VFn P w κ mg base "end_of" 1 [true, true, false, true] g_end_of) : FnOk P w κ.K mg base (L2.CX P w) 2 f fd ["cells", "size", "rooms", "pairs"] (spV κ [true, true, true, true] g_keeps) := by
  have sc := sc_keeps
  refine F.okX sc (fun vs H Q E h => spV_len h) fun cdv A outer s H vs Q E hr h => ⟨tS κ (fun c d _ H' => E c d H') b_keeps, ?_, v_end (k := 3) rfl h⟩
  have tk : Takes (cxOf (L2.CX P w) P w κ.K mg base ["cells", "size", "rooms", "pairs", "one", "other", "room"] "keeps" (defScope s_keeps) f cdv A outer s H E) (fun c d _ H' => E c d H') := takes_of rfl rfl rfl rfl
  have hp := passes_of (X := cxOf (L2.CX P w) P w κ.K mg base ["cells", "size", "rooms", "pairs", "one", "other", "room"] "keeps" (defScope s_keeps) f cdv A outer s H E) rfl
  exact s_cons (s_lock (i := 3) (s_for hp rfl (i_anyN rfl (pv 3)) (pg_tup rfl (pgs_cons (pg_name (i := 4) sc.nd rfl (by first | exact Or.inl rfl | exact Or.inr rfl)) (pgs_cons (pg_name (i := 5) sc.nd rfl (by first | exact Or.inl rfl | exact Or.inr rfl)) (pgs_nil)))) (tg_tup [4, 5] rfl) (s_one (s_for hp rfl (i_rg1 rfl rfl T.z_range (a_bo (b_var (pv 2)) (a_nil))) (pg_name (i := 6) sc.nd rfl (by first | exact Or.inl rfl | exact Or.inr rfl)) (tg_name 6) (s_one (s_if (t_cmp (o_ne rfl hr.units) s_ne (v_bo (v_frz (v_call K_end_of rfl (hr.mono (by decide)) tk rfl (a_bo (b_var (pv 0)) (a_bo (b_var (pv 1)) (a_sh (v_var (pv 6)) (a_bo (b_var (pv 4)) (a_nil)))))))) (v_bo (v_frz (v_call K_end_of rfl (hr.mono (by decide)) tk rfl (a_bo (b_var (pv 0)) (a_bo (b_var (pv 1)) (a_sh (v_var (pv 6)) (a_bo (b_var (pv 5)) (a_nil)))))))) (nomark _)) (s_one (s_ret (v_sh (v_bl)))) (s_nil))))))) (s_one (s_ret (v_sh (v_bl))))
theorem ok_keeps (T : Txt κ mg) (K_end_of : VFn P w κ mg base "end_of" 1 [true, true, false, true] g_end_of) : VFn P w κ mg base "keeps" 2 [true, true, true, true] g_keeps := by
  obtain ⟨f, fd, F, hm⟩ := T.d_keeps
  exact ⟨f, fd, ["cells", "size", "rooms", "pairs"], hm, F.kp, fn_keeps F T K_end_of, F.binds (ps := ["cells", "size", "rooms", "pairs"]) fun _ _ _ _ _ _ us hl => match us, hl with | [_, _, _, _], _ => rfl⟩
abbrev s_first_table : Stmt := topS 11
theorem sc_first_table : FnScope ["rooms", "size", "pairs", "one", "other", "cells", "room"] ["rooms", "size", "pairs", "one", "other"] (defScope s_first_table) := ⟨rfl, rfl, rfl, by decide +kernel, rfl, by decide +kernel, by decide +kernel⟩
theorem fn_first_table {f : Addr} {fd : FuncData} (F : Fun κ.K "first_table" "first_table" s_first_table f fd) (T : Txt κ mg) (K_end_of : VFn P w κ mg base "end_of" 1 [true, true, false, true] g_end_of) (K_keeps : VFn P w κ mg base "keeps" 2 [true, true, true, true] g_keeps) (K_next_cells : VFn P w κ mg base "next_cells" 1 [true, true] g_next_cells) : FnOk P w κ.K mg base (L2.CX P w) 3 f fd ["rooms", "size", "pairs", "one", "other"] (spV κ [true, true, true, true, true] g_first_table) := by
  have sc := sc_first_table
  refine F.okX sc (fun vs H Q E h => spV_len h) fun cdv A outer s H vs Q E hr h => ⟨tS κ (fun c d _ H' => E c d H') b_first_table, ?_, v_end (k := 2) rfl h⟩
  have tk : Takes (cxOf (L2.CX P w) P w κ.K mg base ["rooms", "size", "pairs", "one", "other", "cells", "room"] "first_table" (defScope s_first_table) f cdv A outer s H E) (fun c d _ H' => E c d H') := takes_of rfl rfl rfl rfl
  have hp := passes_of (X := cxOf (L2.CX P w) P w κ.K mg base ["rooms", "size", "pairs", "one", "other", "cells", "room"] "first_table" (defScope s_first_table) f cdv A outer s H E) rfl
  exact s_cons (s_asg (i := 5) sc.nd rfl (by first | exact Or.inl rfl | exact Or.inr rfl) (v_op o_mul s_mul (v_bo (v_frz (v_lst (ms := [false]) rfl (a_sh (v_int) (a_nil))))) (v_bo (v_frz (v_op o_mul s_mul (b_var (pv 0)) (b_var (pv 1))))))) (s_cons (s_while fuel hp (t_cmp op_notN s_notN (b_var (pv 5)) (v_bo (v_non)) (nomark _)) (s_cons (s_if (t_cmp (o_ne rfl hr.units) s_ne (v_bo (v_frz (v_call K_end_of rfl (hr.mono (by decide)) tk rfl (a_bo (b_var (pv 5)) (a_bo (b_var (pv 1)) (a_sh (v_int) (a_bo (b_var (pv 3)) (a_nil)))))))) (v_bo (v_frz (v_call K_end_of rfl (hr.mono (by decide)) tk rfl (a_bo (b_var (pv 5)) (a_bo (b_var (pv 1)) (a_sh (v_int) (a_bo (b_var (pv 4)) (a_nil)))))))) (nomark _)) (s_one (s_if (t_tru rfl (v_bo (v_frz (v_call K_keeps rfl (hr.mono (by decide)) tk rfl (a_bo (b_var (pv 5)) (a_bo (b_var (pv 1)) (a_bo (b_var (pv 0)) (a_bo (b_var (pv 2)) (a_nil))))))))) (s_one (s_ret (v_lc (own := [("room", 6)]) (vs := [6]) rfl sc.nd rfl (i_rg1 rfl rfl T.z_range (a_bo (b_var (pv 0)) (a_nil))) (blkOk_by (own := [("room", 6)]) (N := ["rooms", "size", "pairs", "one", "other", "cells", "room"]) (sc := defScope s_first_table) (by decide +kernel)) (fun _ _ _ _ _ => pg_name (i := 6) sc.nd rfl (by first | exact Or.inl rfl | exact Or.inr rfl)) (to_name 6 rfl) (fun _ _ _ _ _ => pts_yes) (fun _ _ _ _ _ => v_frz (v_sl rfl (b_var (pv 5)) (o_some (v_bo (v_frz (v_op o_mul s_mul (b_var (pv 6)) (b_var (pv 1)))))) (o_some (v_bo (v_frz (v_op o_add s_add (v_bo (v_frz (v_op o_mul s_mul (b_var (pv 6)) (b_var (pv 1))))) (b_var (pv 1))))))))))) (s_nil))) (s_nil)) (s_one (s_asg (i := 5) sc.nd rfl (by first | exact Or.inl rfl | exact Or.inr rfl) (v_call K_next_cells rfl (hr.mono (by decide)) tk rfl (a_bo (b_var (pv 5)) (a_bo (b_var (pv 0)) (a_nil)))))))) (s_one (s_ret (v_sh (v_non)))))
theorem ok_first_table (T : Txt κ mg) (K_end_of : VFn P w κ mg base "end_of" 1 [true, true, false, true] g_end_of) (K_keeps : VFn P w κ mg base "keeps" 2 [true, true, true, true] g_keeps) (K_next_cells : VFn P w κ mg base "next_cells" 1 [true, true] g_next_cells) : VFn P w κ mg base "first_table" 3 [true, true, true, true, true] g_first_table := by
  obtain ⟨f, fd, F, hm⟩ := T.d_first_table
  exact ⟨f, fd, ["rooms", "size", "pairs", "one", "other"], hm, F.kp, fn_first_table F T K_end_of K_keeps K_next_cells, F.binds (ps := ["rooms", "size", "pairs", "one", "other"]) fun _ _ _ _ _ _ us hl => match us, hl with | [_, _, _, _, _], _ => rfl⟩
abbrev s_world_apart : Stmt := topS 12
theorem sc_world_apart : FnScope ["letters", "pacts", "one", "other", "most", "pairs", "rooms", "found", "pact"] ["letters", "pacts", "one", "other", "most"] (defScope s_world_apart) := ⟨rfl, rfl, rfl, by decide +kernel, rfl, by decide +kernel, by decide +kernel⟩
theorem fn_world_apart {f : Addr} {fd : FuncData} (F : Fun κ.K "world_apart" "world_apart" s_world_apart f fd) (T : Txt κ mg) (K_tables_within : VFn P w κ mg base "tables_within" 1 [true, true] g_tables_within) (K_places_of : VFn P w κ mg base "places_of" 1 [true, true] g_places_of) (K_first_table : VFn P w κ mg base "first_table" 3 [true, true, true, true, true] g_first_table) : FnOk P w κ.K mg base (L2.CX P w) 4 f fd ["letters", "pacts", "one", "other", "most"] (spV κ [true, true, true, true, true] g_world_apart) := by
  have sc := sc_world_apart
  refine F.okX sc (fun vs H Q E h => spV_len h) fun cdv A outer s H vs Q E hr h => ⟨tS κ (fun c d _ H' => E c d H') b_world_apart, ?_, v_end (k := 4) rfl h⟩
  have tk : Takes (cxOf (L2.CX P w) P w κ.K mg base ["letters", "pacts", "one", "other", "most", "pairs", "rooms", "found", "pact"] "world_apart" (defScope s_world_apart) f cdv A outer s H E) (fun c d _ H' => E c d H') := takes_of rfl rfl rfl rfl
  have hp := passes_of (X := cxOf (L2.CX P w) P w κ.K mg base ["letters", "pacts", "one", "other", "most", "pairs", "rooms", "found", "pact"] "world_apart" (defScope s_world_apart) f cdv A outer s H E) rfl
  exact s_cons (s_if (t_not (t_tru rfl (v_bo (v_frz (v_call K_tables_within rfl (hr.mono (by decide)) tk rfl (a_bo (b_var (pv 0)) (a_bo (b_var (pv 4)) (a_nil)))))))) (s_one (s_raise0 (c := 2) rfl rfl (congrFun T.xf 2) tk T.g_TooMany T.e_TooMany T.k_TooMany T.b_TooMany T.t_TooMany rfl)) (s_nil)) (s_cons (s_lcL (i := 5) (j := 1) (own := [("pact", 8)]) (vs := [8]) rfl sc.nd rfl rfl rfl (sw_true rfl rfl rfl (by decide +kernel)) (i_anyN rfl (pv 1)) (blkOk_by (own := [("pact", 8)]) (N := ["letters", "pacts", "one", "other", "most", "pairs", "rooms", "found", "pact"]) (sc := defScope s_world_apart) (by decide +kernel)) (fun _ _ _ _ _ => pg_name (i := 8) sc.nd rfl (by first | exact Or.inl rfl | exact Or.inr rfl)) (to_name 8 rfl) (fun _ _ _ _ _ => pts_yes) (fun _ _ _ _ _ => v_tup (ms := [false, false]) rfl (a_sh (v_frz (v_call K_places_of rfl (hr.mono (by decide)) takes0 rfl (a_bo (b_var (pv 0)) (a_bo (v_bo (v_ix rfl (b_var (pv 8)) (v_bo (v_int)) (fun _ _ => rfl))) (a_nil))))) (a_sh (v_frz (v_call K_places_of rfl (hr.mono (by decide)) takes0 rfl (a_bo (b_var (pv 0)) (a_bo (v_bo (v_ix rfl (b_var (pv 8)) (v_bo (v_int)) (fun _ _ => rfl))) (a_nil))))) (a_nil))))) (s_cons (s_for hp rfl (i_rg2 rfl rfl T.z_range (a_bo (v_bo (v_int)) (a_bo (v_bo (v_frz (v_op o_add s_add (b_var (pv 4)) (v_bo (v_int))))) (a_nil)))) (pg_name (i := 6) sc.nd rfl (by first | exact Or.inl rfl | exact Or.inr rfl)) (tg_name 6) (s_cons (s_asg (i := 7) sc.nd rfl (by first | exact Or.inl rfl | exact Or.inr rfl) (v_call K_first_table rfl (hr.mono (by decide)) tk rfl (a_bo (b_var (pv 6)) (a_bo (v_bo (v_frz (v_callB call_len s_len rfl T.z_len PySem.boot_len (a_bo (b_var (pv 0)) (a_nil))))) (a_bo (b_var (pv 5)) (a_bo (v_bo (v_frz (v_call K_places_of rfl (hr.mono (by decide)) tk rfl (a_bo (b_var (pv 0)) (a_bo (b_var (pv 2)) (a_nil)))))) (a_bo (v_bo (v_frz (v_call K_places_of rfl (hr.mono (by decide)) tk rfl (a_bo (b_var (pv 0)) (a_bo (b_var (pv 3)) (a_nil)))))) (a_nil)))))))) (s_one (s_if (t_cmp op_notN s_notN (b_var (pv 7)) (v_bo (v_non)) (nomark _)) (s_one (s_retV (pv 7))) (s_nil))))) (s_one (s_ret (v_sh (v_non))))))
theorem ok_world_apart (T : Txt κ mg) (K_tables_within : VFn P w κ mg base "tables_within" 1 [true, true] g_tables_within) (K_places_of : VFn P w κ mg base "places_of" 1 [true, true] g_places_of) (K_first_table : VFn P w κ mg base "first_table" 3 [true, true, true, true, true] g_first_table) : VFn P w κ mg base "world_apart" 4 [true, true, true, true, true] g_world_apart := by
  obtain ⟨f, fd, F, hm⟩ := T.d_world_apart
  exact ⟨f, fd, ["letters", "pacts", "one", "other", "most"], hm, F.kp, fn_world_apart F T K_tables_within K_places_of K_first_table, F.binds (ps := ["letters", "pacts", "one", "other", "most"]) fun _ _ _ _ _ _ us hl => match us, hl with | [_, _, _, _, _], _ => rfl⟩
abbrev s_law_cell_at : Stmt := topS 14
theorem sc_law_cell_at : FnScope ["_law_script", "_law_k"] ["_law_script", "_law_k"] (defScope s_law_cell_at) := ⟨rfl, rfl, rfl, by decide +kernel, rfl, by decide +kernel, by decide +kernel⟩
theorem fn_law_cell_at {f : Addr} {fd : FuncData} (F : Fun κ.K "_law_cell_at" "_law_cell_at" s_law_cell_at f fd) (T : Txt κ mg) : FnOk P w κ.K mg base (L2.CX P w) 1 f fd ["_law_script", "_law_k"] (spV κ [true, true] g_law_cell_at) := by
  have sc := sc_law_cell_at
  refine F.okX sc (fun vs H Q E h => spV_len h) fun cdv A outer s H vs Q E hr h => ⟨tS κ (fun c d _ H' => E c d H') b_law_cell_at, ?_, v_end (k := 0) rfl h⟩
  have tk : Takes (cxOf (L2.CX P w) P w κ.K mg base ["_law_script", "_law_k"] "_law_cell_at" (defScope s_law_cell_at) f cdv A outer s H E) (fun c d _ H' => E c d H') := takes_of rfl rfl rfl rfl
  have hp := passes_of (X := cxOf (L2.CX P w) P w κ.K mg base ["_law_script", "_law_k"] "_law_cell_at" (defScope s_law_cell_at) f cdv A outer s H E) rfl
  exact s_cons (s_if (t_cmp (o_ltA rfl hr.units) s_ltA (b_var (pv 1)) (v_bo (v_frz (v_callB call_len s_len rfl T.z_len PySem.boot_len (a_bo (b_var (pv 0)) (a_nil))))) (nomark _)) (s_one (s_ret (v_op op_mod s_mod (v_bo (v_ix rfl (b_var (pv 0)) (b_var (pv 1)) (fun _ _ => rfl))) (v_bo (v_frz (v_op op_pow s_pow (v_bo (v_int)) (v_bo (v_int)))))))) (s_nil)) (s_one (s_ret (v_sh (v_int))))
theorem ok_law_cell_at (T : Txt κ mg) : VFn P w κ mg base "_law_cell_at" 1 [true, true] g_law_cell_at := by
  obtain ⟨f, fd, F, hm⟩ := T.d_law_cell_at
  exact ⟨f, fd, ["_law_script", "_law_k"], hm, F.kp, fn_law_cell_at F T, F.binds (ps := ["_law_script", "_law_k"]) fun _ _ _ _ _ _ us hl => match us, hl with | [_, _], _ => rfl⟩
abbrev s_law_letters : Stmt := topS 15
theorem sc_law_letters : FnScope ["_law_cell", "_law_many", "_law_left", "_law_told", "_law_k", "_law_at"] ["_law_cell", "_law_many"] (defScope s_law_letters) := ⟨rfl, rfl, rfl, by decide +kernel, rfl, by decide +kernel, by decide +kernel⟩
theorem fn_law_letters {f : Addr} {fd : FuncData} (F : Fun κ.K "_law_letters" "_law_letters" s_law_letters f fd) (T : Txt κ mg) : FnOk P w κ.K mg base (L2.CX P w) 1 f fd ["_law_cell", "_law_many"] (spV κ [true, true] g_law_letters) := by
  have sc := sc_law_letters
  refine F.okX sc (fun vs H Q E h => spV_len h) fun cdv A outer s H vs Q E hr h => ⟨tS κ (fun c d _ H' => E c d H') b_law_letters, ?_, v_end (k := 4) rfl h⟩
  have tk : Takes (cxOf (L2.CX P w) P w κ.K mg base ["_law_cell", "_law_many", "_law_left", "_law_told", "_law_k", "_law_at"] "_law_letters" (defScope s_law_letters) f cdv A outer s H E) (fun c d _ H' => E c d H') := takes_of rfl rfl rfl rfl
  have hp := passes_of (X := cxOf (L2.CX P w) P w κ.K mg base ["_law_cell", "_law_many", "_law_left", "_law_told", "_law_k", "_law_at"] "_law_letters" (defScope s_law_letters) f cdv A outer s H E) rfl
  exact s_cons (s_asg (i := 2) sc.nd rfl (by first | exact Or.inl rfl | exact Or.inr rfl) (v_sh (v_str (by rfl)))) (s_cons (s_asg (i := 3) sc.nd rfl (by first | exact Or.inl rfl | exact Or.inr rfl) (v_sh (v_str (by rfl)))) (s_cons (s_for hp rfl (i_rg1 rfl rfl T.z_range (a_bo (b_var (pv 1)) (a_nil))) (pg_name (i := 4) sc.nd rfl (by first | exact Or.inl rfl | exact Or.inr rfl)) (tg_name 4) (s_cons (s_asg (i := 5) sc.nd rfl (by first | exact Or.inl rfl | exact Or.inr rfl) (v_op op_mod s_mod (b_var (pv 0)) (v_bo (v_frz (v_callB call_len s_len rfl T.z_len PySem.boot_len (a_bo (b_var (pv 2)) (a_nil))))))) (s_cons (s_asg (i := 0) sc.nd rfl (by first | exact Or.inl rfl | exact Or.inr rfl) (v_op op_fdivW s_div (b_var (pv 0)) (v_bo (v_frz (v_callB call_len s_len rfl T.z_len PySem.boot_len (a_bo (b_var (pv 2)) (a_nil))))))) (s_cons (s_asg (i := 3) sc.nd rfl (by first | exact Or.inl rfl | exact Or.inr rfl) (v_op o_add s_add (b_var (pv 3)) (v_bo (v_ix rfl (b_var (pv 2)) (b_var (pv 5)) (fun _ _ => rfl))))) (s_one (s_asg (i := 2) sc.nd rfl (by first | exact Or.inl rfl | exact Or.inr rfl) (v_op o_add s_add (v_bo (v_frz (v_sl rfl (b_var (pv 2)) (o_none) (o_some (b_var (pv 5)))))) (v_bo (v_frz (v_sl rfl (b_var (pv 2)) (o_some (v_bo (v_frz (v_op o_add s_add (b_var (pv 5)) (v_bo (v_int)))))) (o_none))))))))))) (s_one (s_retV (pv 3)))))
theorem ok_law_letters (T : Txt κ mg) : VFn P w κ mg base "_law_letters" 1 [true, true] g_law_letters := by
  obtain ⟨f, fd, F, hm⟩ := T.d_law_letters
  exact ⟨f, fd, ["_law_cell", "_law_many"], hm, F.kp, fn_law_letters F T, F.binds (ps := ["_law_cell", "_law_many"]) fun _ _ _ _ _ _ us hl => match us, hl with | [_, _], _ => rfl⟩
abbrev s_law_word : Stmt := topS 16
theorem sc_law_word : FnScope ["_law_letters_here", "_law_cell", "_law_size", "_law_word_here", "_law_k"] ["_law_letters_here", "_law_cell", "_law_size"] (defScope s_law_word) := ⟨rfl, rfl, rfl, by decide +kernel, rfl, by decide +kernel, by decide +kernel⟩
theorem fn_law_word {f : Addr} {fd : FuncData} (F : Fun κ.K "_law_word" "_law_word" s_law_word f fd) (T : Txt κ mg) : FnOk P w κ.K mg base (L2.CX P w) 1 f fd ["_law_letters_here", "_law_cell", "_law_size"] (spV κ [true, true, true] g_law_word) := by
  have sc := sc_law_word
  refine F.okX sc (fun vs H Q E h => spV_len h) fun cdv A outer s H vs Q E hr h => ⟨tS κ (fun c d _ H' => E c d H') b_law_word, ?_, v_end (k := 2) rfl h⟩
  have tk : Takes (cxOf (L2.CX P w) P w κ.K mg base ["_law_letters_here", "_law_cell", "_law_size", "_law_word_here", "_law_k"] "_law_word" (defScope s_law_word) f cdv A outer s H E) (fun c d _ H' => E c d H') := takes_of rfl rfl rfl rfl
  have hp := passes_of (X := cxOf (L2.CX P w) P w κ.K mg base ["_law_letters_here", "_law_cell", "_law_size", "_law_word_here", "_law_k"] "_law_word" (defScope s_law_word) f cdv A outer s H E) rfl
  exact s_cons (s_asg (i := 3) sc.nd rfl (by first | exact Or.inl rfl | exact Or.inr rfl) (v_sh (v_str (by rfl)))) (s_cons (s_for hp rfl (i_rg1 rfl rfl T.z_range (a_bo (b_var (pv 2)) (a_nil))) (pg_name (i := 4) sc.nd rfl (by first | exact Or.inl rfl | exact Or.inr rfl)) (tg_name 4) (s_cons (s_asg (i := 3) sc.nd rfl (by first | exact Or.inl rfl | exact Or.inr rfl) (v_op o_add s_add (b_var (pv 3)) (v_bo (v_ix rfl (b_var (pv 0)) (v_bo (v_frz (v_op op_mod s_mod (b_var (pv 1)) (v_bo (v_frz (v_callB call_len s_len rfl T.z_len PySem.boot_len (a_bo (b_var (pv 0)) (a_nil)))))))) (fun _ _ => rfl))))) (s_one (s_asg (i := 1) sc.nd rfl (by first | exact Or.inl rfl | exact Or.inr rfl) (v_op op_fdivW s_div (b_var (pv 1)) (v_bo (v_frz (v_callB call_len s_len rfl T.z_len PySem.boot_len (a_bo (b_var (pv 0)) (a_nil)))))))))) (s_one (s_retV (pv 3))))
theorem ok_law_word (T : Txt κ mg) : VFn P w κ mg base "_law_word" 1 [true, true, true] g_law_word := by
  obtain ⟨f, fd, F, hm⟩ := T.d_law_word
  exact ⟨f, fd, ["_law_letters_here", "_law_cell", "_law_size"], hm, F.kp, fn_law_word F T, F.binds (ps := ["_law_letters_here", "_law_cell", "_law_size"]) fun _ _ _ _ _ _ us hl => match us, hl with | [_, _, _], _ => rfl⟩
abbrev s_law_within : Stmt := topS 17
theorem sc_law_within : FnScope ["_law_size", "_law_many", "_law_count", "_law_k"] ["_law_size", "_law_many"] (defScope s_law_within) := ⟨rfl, rfl, rfl, by decide +kernel, rfl, by decide +kernel, by decide +kernel⟩
theorem fn_law_within {f : Addr} {fd : FuncData} (F : Fun κ.K "_law_within" "_law_within" s_law_within f fd) (T : Txt κ mg) : FnOk P w κ.K mg base (L2.CX P w) 1 f fd ["_law_size", "_law_many"] (spV κ [true, true] g_law_within) := by
  have sc := sc_law_within
  refine F.okX sc (fun vs H Q E h => spV_len h) fun cdv A outer s H vs Q E hr h => ⟨tS κ (fun c d _ H' => E c d H') b_law_within, ?_, v_end (k := 2) rfl h⟩
  have tk : Takes (cxOf (L2.CX P w) P w κ.K mg base ["_law_size", "_law_many", "_law_count", "_law_k"] "_law_within" (defScope s_law_within) f cdv A outer s H E) (fun c d _ H' => E c d H') := takes_of rfl rfl rfl rfl
  have hp := passes_of (X := cxOf (L2.CX P w) P w κ.K mg base ["_law_size", "_law_many", "_law_count", "_law_k"] "_law_within" (defScope s_law_within) f cdv A outer s H E) rfl
  exact s_cons (s_asg (i := 2) sc.nd rfl (by first | exact Or.inl rfl | exact Or.inr rfl) (v_sh (v_int))) (s_cons (s_for hp rfl (i_rg1 rfl rfl T.z_range (a_bo (v_bo (v_frz (v_op o_mul s_mul (b_var (pv 0)) (b_var (pv 1))))) (a_nil))) (pg_name (i := 3) sc.nd rfl (by first | exact Or.inl rfl | exact Or.inr rfl)) (tg_name 3) (s_one (s_asg (i := 2) sc.nd rfl (by first | exact Or.inl rfl | exact Or.inr rfl) (v_op o_mul s_mul (b_var (pv 2)) (b_var (pv 0)))))) (s_one (s_ret (v_sh (v_cmp o_le s_cm (b_var (pv 2)) (v_bo (v_int)) (nomark _))))))
theorem ok_law_within (T : Txt κ mg) : VFn P w κ mg base "_law_within" 1 [true, true] g_law_within := by
  obtain ⟨f, fd, F, hm⟩ := T.d_law_within
  exact ⟨f, fd, ["_law_size", "_law_many"], hm, F.kp, fn_law_within F T, F.binds (ps := ["_law_size", "_law_many"]) fun _ _ _ _ _ _ us hl => match us, hl with | [_, _], _ => rfl⟩
abbrev s_law_refused : Stmt := topS 18
theorem sc_law_refused : FnScope ["_law_letters_here", "_law_pacts", "_law_one", "_law_other", "_law_most", "_law_refused_here", "e"] ["_law_letters_here", "_law_pacts", "_law_one", "_law_other", "_law_most"] (defScope s_law_refused) := ⟨rfl, rfl, rfl, by decide +kernel, rfl, by decide +kernel, by decide +kernel⟩
theorem fn_law_refused {f : Addr} {fd : FuncData} (F : Fun κ.K "_law_refused" "_law_refused" s_law_refused f fd) (T : Txt κ mg) (K_world_apart : VFn P w κ mg base "world_apart" 4 [true, true, true, true, true] g_world_apart) : FnOk P w κ.K mg base (L2.CX P w) 5 f fd ["_law_letters_here", "_law_pacts", "_law_one", "_law_other", "_law_most"] (spV κ [true, true, true, true, true] g_law_refused) := by
  have sc := sc_law_refused
  refine F.okX sc (fun vs H Q E h => spV_len h) fun cdv A outer s H vs Q E hr h => ⟨tS κ (fun c d _ H' => E c d H') b_law_refused, ?_, v_end (k := 2) rfl h⟩
  have tk : Takes (cxOf (L2.CX P w) P w κ.K mg base ["_law_letters_here", "_law_pacts", "_law_one", "_law_other", "_law_most", "_law_refused_here", "e"] "_law_refused" (defScope s_law_refused) f cdv A outer s H E) (fun c d _ H' => E c d H') := takes_of rfl rfl rfl rfl
  have hp := passes_of (X := cxOf (L2.CX P w) P w κ.K mg base ["_law_letters_here", "_law_pacts", "_law_one", "_law_other", "_law_most", "_law_refused_here", "e"] "_law_refused" (defScope s_law_refused) f cdv A outer s H E) rfl
  exact s_cons (s_asg (i := 5) sc.nd rfl (by first | exact Or.inl rfl | exact Or.inr rfl) (v_sh (v_bl))) (s_cons (s_tryAs (h := 0) (i := 6) (xs := xs) (mb := y1_law_refused) (ms := z1_law_refused) rfl rfl sc.nd rfl rfl rfl ⟨rfl, by decide, Or.inl T.g_LetterError⟩ T.x_LetterError tk (fun W pn xe tk hp => s_one (s_drop (v_call K_world_apart rfl (hr.mono (by decide)) tk rfl (a_bo (b_var (pv 0)) (a_bo (b_var (pv 1)) (a_bo (b_var (pv 2)) (a_bo (b_var (pv 3)) (a_bo (b_var (pv 4)) (a_nil))))))))) (fun a oe cls d pn hz hf => s_one (s_asg (i := 5) sc.nd rfl (by first | exact Or.inl rfl | exact Or.inr rfl) (v_sh (v_and (v_isX rfl T.isB T.i_TooMany hz hf rfl T.z_isinstance (.own _) (pe_glob rfl T.g_TooMany rfl) (pv 6)) (v_and (v_isX rfl T.isB T.i_ValueError hz hf rfl T.z_isinstance (.ty _) (pe_bltn (v := .ty "ValueError") rfl T.z_ValueError (by decide +kernel) rfl) (pv 6)) (v_one (v_not (v_isX rfl T.isB T.i_NoWorld hz hf rfl T.z_isinstance (.own _) (pe_glob rfl T.g_NoWorld rfl) (pv 6)))))))))) (s_one (s_retV (pv 5))))
theorem ok_law_refused (T : Txt κ mg) (K_world_apart : VFn P w κ mg base "world_apart" 4 [true, true, true, true, true] g_world_apart) : VFn P w κ mg base "_law_refused" 5 [true, true, true, true, true] g_law_refused := by
  obtain ⟨f, fd, F, hm⟩ := T.d_law_refused
  exact ⟨f, fd, ["_law_letters_here", "_law_pacts", "_law_one", "_law_other", "_law_most"], hm, F.kp, fn_law_refused F T K_world_apart, F.binds (ps := ["_law_letters_here", "_law_pacts", "_law_one", "_law_other", "_law_most"]) fun _ _ _ _ _ _ us hl => match us, hl with | [_, _, _, _, _], _ => rfl⟩
abbrev s_law : Stmt := topS 19
theorem sc_law : FnScope ["_law_script", "_law_first", "_law_many", "_law_most", "_law_letters_here", "_law_due", "_law_found", "_law_cell", "_law_one", "_law_pact", "_law_other", "_law_pacts"] ["_law_script"] (defScope s_law) := ⟨rfl, rfl, rfl, by decide +kernel, rfl, by decide +kernel, by decide +kernel⟩
theorem fn_law {f : Addr} {fd : FuncData} (F : Fun κ.K "law" "law" s_law f fd) (T : Txt κ mg) (K_law_cell_at : VFn P w κ mg base "_law_cell_at" 1 [true, true] g_law_cell_at) (K_law_letters : VFn P w κ mg base "_law_letters" 1 [true, true] g_law_letters) (K_law_within : VFn P w κ mg base "_law_within" 1 [true, true] g_law_within) (K_tables_within : VFn P w κ mg base "tables_within" 1 [true, true] g_tables_within) (K_law_word : VFn P w κ mg base "_law_word" 1 [true, true, true] g_law_word) (K_world_apart : VFn P w κ mg base "world_apart" 4 [true, true, true, true, true] g_world_apart) (K_law_refused : VFn P w κ mg base "_law_refused" 5 [true, true, true, true, true] g_law_refused) : FnOk P w κ.K mg base (L2.CX P w) 6 f fd ["_law_script"] (spV κ [true] g_law) := by
  have sc := sc_law
  refine F.okX sc (fun vs H Q E h => spV_len h) fun cdv A outer s H vs Q E hr h => ⟨tS κ (fun c d _ H' => E c d H') b_law, ?_, v_end (k := 11) rfl h⟩
  have tk : Takes (cxOf (L2.CX P w) P w κ.K mg base ["_law_script", "_law_first", "_law_many", "_law_most", "_law_letters_here", "_law_due", "_law_found", "_law_cell", "_law_one", "_law_pact", "_law_other", "_law_pacts"] "law" (defScope s_law) f cdv A outer s H E) (fun c d _ H' => E c d H') := takes_of rfl rfl rfl rfl
  have hp := passes_of (X := cxOf (L2.CX P w) P w κ.K mg base ["_law_script", "_law_first", "_law_many", "_law_most", "_law_letters_here", "_law_due", "_law_found", "_law_cell", "_law_one", "_law_pact", "_law_other", "_law_pacts"] "law" (defScope s_law) f cdv A outer s H E) rfl
  exact s_cons (s_asg (i := 1) sc.nd rfl (by first | exact Or.inl rfl | exact Or.inr rfl) (v_call K_law_cell_at rfl (hr.mono (by decide)) tk rfl (a_bo (b_var (pv 0)) (a_bo (v_bo (v_int)) (a_nil))))) (s_cons (s_asg (i := 2) sc.nd rfl (by first | exact Or.inl rfl | exact Or.inr rfl) (v_op o_add s_add (v_bo (v_int)) (v_bo (v_frz (v_op op_mod s_mod (b_var (pv 1)) (v_bo (v_int))))))) (s_cons (s_asg (i := 3) sc.nd rfl (by first | exact Or.inl rfl | exact Or.inr rfl) (v_op o_add s_add (v_bo (v_int)) (v_bo (v_frz (v_op op_mod s_mod (v_bo (v_frz (v_op op_fdivW s_div (b_var (pv 1)) (v_bo (v_int))))) (v_bo (v_int))))))) (s_cons (s_if (t_cmp (o_eq rfl hr.units) s_eq (v_bo (v_frz (v_op op_mod s_mod (v_bo (v_frz (v_op op_fdivW s_div (b_var (pv 1)) (v_bo (v_int))))) (v_bo (v_int))))) (v_bo (v_int)) (nomark _)) (s_one (s_tg (pg_tup rfl (pgs_cons (pg_name (i := 3) sc.nd rfl (by first | exact Or.inl rfl | exact Or.inr rfl)) (pgs_cons (pg_name (i := 2) sc.nd rfl (by first | exact Or.inl rfl | exact Or.inr rfl)) (pgs_nil)))) (tg_tup [3, 2] rfl) (v_ix rfl (v_bo (v_frz (v_lst (ms := [false, false, false, false, false, false, false]) rfl (a_sh (v_tup (ms := [false, false]) rfl (a_sh (v_int) (a_sh (v_int) (a_nil)))) (a_sh (v_tup (ms := [false, false]) rfl (a_sh (v_int) (a_sh (v_int) (a_nil)))) (a_sh (v_tup (ms := [false, false]) rfl (a_sh (v_int) (a_sh (v_int) (a_nil)))) (a_sh (v_tup (ms := [false, false]) rfl (a_sh (v_int) (a_sh (v_int) (a_nil)))) (a_sh (v_tup (ms := [false, false]) rfl (a_sh (v_int) (a_sh (v_int) (a_nil)))) (a_sh (v_tup (ms := [false, false]) rfl (a_sh (v_int) (a_sh (v_int) (a_nil)))) (a_sh (v_tup (ms := [false, false]) rfl (a_sh (v_int) (a_sh (v_int) (a_nil)))) (a_nil))))))))))) (v_bo (v_frz (v_op op_mod s_mod (v_bo (v_frz (v_op op_fdivW s_div (b_var (pv 1)) (v_bo (v_int))))) (v_bo (v_int))))) (fun _ _ => rfl)))) (s_nil)) (s_cons (s_asg (i := 4) sc.nd rfl (by first | exact Or.inl rfl | exact Or.inr rfl) (v_call K_law_letters rfl (hr.mono (by decide)) tk rfl (a_bo (v_bo (v_frz (v_op op_fdivW s_div (b_var (pv 1)) (v_bo (v_int))))) (a_bo (b_var (pv 2)) (a_nil))))) (s_cons (s_asg (i := 5) sc.nd rfl (by first | exact Or.inl rfl | exact Or.inr rfl) (v_call K_law_within rfl (hr.mono (by decide)) tk rfl (a_bo (b_var (pv 3)) (a_bo (v_bo (v_frz (v_callB call_len s_len rfl T.z_len PySem.boot_len (a_bo (b_var (pv 4)) (a_nil))))) (a_nil))))) (s_cons (s_asg (i := 6) sc.nd rfl (by first | exact Or.inl rfl | exact Or.inr rfl) (v_call K_tables_within rfl (hr.mono (by decide)) tk rfl (a_bo (b_var (pv 4)) (a_bo (b_var (pv 3)) (a_nil))))) (s_cons (s_if (PW.pt (w_or (t_not (t_tru rfl (v_bo (v_isi .bool rfl rfl T.z_isinstance (pe_bltn (v := .ty "bool") rfl T.z_bool (by decide +kernel) rfl) (b_var (pv 6)))))) (w_or1 (t_cmp (o_ne rfl hr.units) s_ne (b_var (pv 6)) (b_var (pv 5)) (nomark _))))) (s_one (s_ret (v_sh (v_bl)))) (s_nil)) (s_cons (s_asg (i := 7) sc.nd rfl (by first | exact Or.inl rfl | exact Or.inr rfl) (v_call K_law_cell_at rfl (hr.mono (by decide)) tk rfl (a_bo (b_var (pv 0)) (a_bo (v_bo (v_int)) (a_nil))))) (s_cons (s_asg (i := 8) sc.nd rfl (by first | exact Or.inl rfl | exact Or.inr rfl) (v_call K_law_word rfl (hr.mono (by decide)) tk rfl (a_bo (b_var (pv 4)) (a_bo (v_bo (v_frz (v_op op_mod s_mod (v_bo (v_frz (v_op o_mul s_mul (b_var (pv 7)) (v_bo (v_int))))) (v_bo (v_int))))) (a_bo (v_bo (v_frz (v_op op_mod s_mod (b_var (pv 7)) (v_bo (v_int))))) (a_nil)))))) (s_cons (s_asg (i := 9) sc.nd rfl (by first | exact Or.inl rfl | exact Or.inr rfl) (v_sh (v_tup (ms := [false, false]) rfl (a_sh (v_frz (v_call K_law_word rfl (hr.mono (by decide)) tk rfl (a_bo (b_var (pv 4)) (a_bo (v_bo (v_frz (v_op op_mod s_mod (v_bo (v_frz (v_op o_mul s_mul (b_var (pv 7)) (v_bo (v_int))))) (v_bo (v_int))))) (a_bo (v_bo (v_frz (v_op op_mod s_mod (v_bo (v_frz (v_op op_fdivW s_div (b_var (pv 7)) (v_bo (v_int))))) (v_bo (v_int))))) (a_nil)))))) (a_sh (v_ix rfl (b_var (pv 4)) (v_bo (v_frz (v_op op_mod s_mod (b_var (pv 7)) (v_bo (v_frz (v_callB call_len s_len rfl T.z_len PySem.boot_len (a_bo (b_var (pv 4)) (a_nil)))))))) (fun _ _ => rfl)) (a_nil)))))) (s_cons (s_if (t_tru rfl (b_var (pv 5))) (s_cons (s_asg (i := 11) sc.nd rfl (by first | exact Or.inl rfl | exact Or.inr rfl) (v_sh (v_ix rfl (v_bo (v_frz (v_lst (ms := [false, false]) rfl (a_sh (v_frz (v_lst (ms := []) rfl (a_nil))) (a_sh (v_frz (v_lst (ms := [false]) rfl (a_sh (v_var (pv 9)) (a_nil)))) (a_nil)))))) (v_bo (v_frz (v_op op_mod s_mod (v_bo (v_frz (v_op op_fdivW s_div (b_var (pv 7)) (v_bo (v_int))))) (v_bo (v_int))))) (fun _ _ => rfl)))) (s_one (s_ret (v_sh (v_cmp op_isN s_isN (v_bo (v_frz (v_call K_world_apart rfl (hr.mono (by decide)) tk rfl (a_bo (b_var (pv 4)) (a_bo (b_var (pv 11)) (a_bo (b_var (pv 8)) (a_bo (b_var (pv 8)) (a_bo (b_var (pv 3)) (a_nil))))))))) (v_bo (v_non)) (nomark _)))))) (s_nil)) (s_cons (s_asg (i := 10) sc.nd rfl (by first | exact Or.inl rfl | exact Or.inr rfl) (v_sh (v_var (pv 8)))) (s_cons (s_if (t_cmp (o_eq rfl hr.units) s_eq (v_bo (v_frz (v_op op_mod s_mod (v_bo (v_frz (v_op op_fdivW s_div (b_var (pv 7)) (v_bo (v_int))))) (v_bo (v_int))))) (v_bo (v_int)) (nomark _)) (s_one (s_asg (i := 10) sc.nd rfl (by first | exact Or.inl rfl | exact Or.inr rfl) (v_call K_law_word rfl (hr.mono (by decide)) tk rfl (a_bo (b_var (pv 4)) (a_bo (v_bo (v_frz (v_op op_mod s_mod (v_bo (v_frz (v_op o_mul s_mul (b_var (pv 7)) (v_bo (v_int))))) (v_bo (v_int))))) (a_bo (v_bo (v_frz (v_op op_mod s_mod (v_bo (v_frz (v_op op_fdivW s_div (b_var (pv 7)) (v_bo (v_int))))) (v_bo (v_int))))) (a_nil))))))) (s_nil)) (s_one (s_ret (v_sh (v_and (v_frz (v_call K_law_refused rfl (hr.mono (by decide)) tk rfl (a_bo (b_var (pv 4)) (a_bo (v_bo (v_frz (v_lst (ms := []) rfl (a_nil)))) (a_bo (b_var (pv 8)) (a_bo (b_var (pv 10)) (a_bo (b_var (pv 3)) (a_nil)))))))) (v_one (v_frz (v_call K_law_refused rfl (hr.mono (by decide)) tk rfl (a_bo (b_var (pv 4)) (a_bo (v_bo (v_frz (v_lst (ms := [false]) rfl (a_sh (v_var (pv 9)) (a_nil))))) (a_bo (b_var (pv 8)) (a_bo (b_var (pv 10)) (a_bo (b_var (pv 3)) (a_nil))))))))))))))))))))))))))
theorem ok_law (T : Txt κ mg) (K_law_cell_at : VFn P w κ mg base "_law_cell_at" 1 [true, true] g_law_cell_at) (K_law_letters : VFn P w κ mg base "_law_letters" 1 [true, true] g_law_letters) (K_law_within : VFn P w κ mg base "_law_within" 1 [true, true] g_law_within) (K_tables_within : VFn P w κ mg base "tables_within" 1 [true, true] g_tables_within) (K_law_word : VFn P w κ mg base "_law_word" 1 [true, true, true] g_law_word) (K_world_apart : VFn P w κ mg base "world_apart" 4 [true, true, true, true, true] g_world_apart) (K_law_refused : VFn P w κ mg base "_law_refused" 5 [true, true, true, true, true] g_law_refused) : VFn P w κ mg base "law" 6 [true] g_law := by
  obtain ⟨f, fd, F, hm⟩ := T.d_law
  exact ⟨f, fd, ["_law_script"], hm, F.kp, fn_law F T K_law_cell_at K_law_letters K_law_within K_tables_within K_law_word K_world_apart K_law_refused, F.binds (ps := ["_law_script"]) fun _ _ _ _ _ _ us hl => match us, hl with | [_], _ => rfl⟩
end
end Lw

set_option Elab.async false
set_option linter.all false
set_option maxRecDepth 100000
set_option maxHeartbeats 4000000
namespace Lw
open PySem L2 Vs
def kx (K : PySem.W.Frag) (C_LetterError C_NoWorld C_TooMany : Addr) : Kx := ⟨K, fun _ => 0, fun _ => [], fun i => match i with | 0 => C_LetterError | 1 => C_NoWorld | 2 => C_TooMany | _ => 0, xf⟩
theorem all_mk {l : PySem.W.OpenLaw} {w : World} {K : PySem.W.Frag} {h : Heap} {mg : Str → Option Value} {fa : Addr} (X : K.In h) (G : h.Ns mainGlobals mg) (hfa : mg "law" = some (.ref fa))
    {C_LetterError : Addr}
    {C_NoWorld : Addr}
    {C_TooMany : Addr}
    (xg_LetterError : PySem.W.nsIn K mainGlobals "LetterError" = some (some (.ref C_LetterError)))
    (xg_NoWorld : PySem.W.nsIn K mainGlobals "NoWorld" = some (some (.ref C_NoWorld)))
    (xg_TooMany : PySem.W.nsIn K mainGlobals "TooMany" = some (some (.ref C_TooMany)))
    (xe_TooMany : PySem.W.excIn K C_TooMany veB "ValueError.__new__" = true)
    (kp_TooMany : PySem.W.keepIn K (.ref C_TooMany) = true)
    (sb_TooMany : PySem.W.subIn K (.ref C_TooMany) (.type "BaseException") = some true)
    (ty_TooMany : PySem.W.typeIn K (.ref C_TooMany) = some (.type "type"))
    (sb_LetterError : PySem.W.subIn K (.ref C_LetterError) (.type "BaseException") = some true)
    (ic_LetterError : PySem.W.isClsIn K C_LetterError = true)
    (ty_LetterError : PySem.W.typeIn K (.ref C_LetterError) = some (.type "type"))
    (su_LetterError_LetterError : PySem.W.subIn K (.ref C_LetterError) (.ref C_LetterError) = some true)
    (su_NoWorld_LetterError : PySem.W.subIn K (.ref C_NoWorld) (.ref C_LetterError) = some true)
    (su_TooMany_LetterError : PySem.W.subIn K (.ref C_TooMany) (.ref C_LetterError) = some true)
    (xhn : PySem.W.specialIn K (.builtin "object.__class__") "__get__" = some (some (.builtin "getset_descriptor.__get__")))
    (xht : PySem.W.takesIn K (.builtin "object.__class__") = some true)
    (ga_LetterError : PySem.W.findIn K (.ref C_LetterError) "__getattribute__" = some (some (.builtin "BaseException.__getattribute__")))
    (gg_LetterError : PySem.W.findIn K (.ref C_LetterError) "__getattr__" = some none)
    (hc_LetterError : PySem.W.findIn K (.ref C_LetterError) "__class__" = some (some (.builtin "object.__class__")))
    (mo_LetterError : PySem.W.mroIn K C_LetterError (.type "object") = some true)
    (ic_NoWorld : PySem.W.isClsIn K C_NoWorld = true)
    (ty_NoWorld : PySem.W.typeIn K (.ref C_NoWorld) = some (.type "type"))
    (su_LetterError_NoWorld : PySem.W.subIn K (.ref C_LetterError) (.ref C_NoWorld) = some false)
    (ne_LetterError_NoWorld : (Value.ref C_LetterError == Value.ref C_NoWorld) = false)
    (ga_NoWorld : PySem.W.findIn K (.ref C_NoWorld) "__getattribute__" = some (some (.builtin "BaseException.__getattribute__")))
    (gg_NoWorld : PySem.W.findIn K (.ref C_NoWorld) "__getattr__" = some none)
    (sb_NoWorld : PySem.W.subIn K (.ref C_NoWorld) (.type "BaseException") = some true)
    (hc_NoWorld : PySem.W.findIn K (.ref C_NoWorld) "__class__" = some (some (.builtin "object.__class__")))
    (mo_NoWorld : PySem.W.mroIn K C_NoWorld (.type "object") = some true)
    (ic_TooMany : PySem.W.isClsIn K C_TooMany = true)
    (ga_TooMany : PySem.W.findIn K (.ref C_TooMany) "__getattribute__" = some (some (.builtin "BaseException.__getattribute__")))
    (gg_TooMany : PySem.W.findIn K (.ref C_TooMany) "__getattr__" = some none)
    (hc_TooMany : PySem.W.findIn K (.ref C_TooMany) "__class__" = some (some (.builtin "object.__class__")))
    (mo_TooMany : PySem.W.mroIn K C_TooMany (.type "object") = some true)
    (su_TooMany_NoWorld : PySem.W.subIn K (.ref C_TooMany) (.ref C_NoWorld) = some false)
    (ne_TooMany_NoWorld : (Value.ref C_TooMany == Value.ref C_NoWorld) = false)
    (sv_LetterError : PySem.W.subIn K (.ref C_LetterError) (.type "ValueError") = some true)
    (sv_NoWorld : PySem.W.subIn K (.ref C_NoWorld) (.type "ValueError") = some true)
    (sv_TooMany : PySem.W.subIn K (.ref C_TooMany) (.type "ValueError") = some true)
    (su_LetterError_TooMany : PySem.W.subIn K (.ref C_LetterError) (.ref C_TooMany) = some false)
    (ne_LetterError_TooMany : (Value.ref C_LetterError == Value.ref C_TooMany) = false)
    (su_NoWorld_TooMany : PySem.W.subIn K (.ref C_NoWorld) (.ref C_TooMany) = some false)
    (ne_NoWorld_TooMany : (Value.ref C_NoWorld == Value.ref C_TooMany) = false)
    {f1 : Addr} {od1 an1 : Option Addr} {sl1 : Array (Option Value)} {oc1 kV1 dc1 pm1 cd1 ct1 : Value}
    (a1 : PySem.W.nsIn K mainGlobals "tables_within" = some (some (.ref f1))) (l1 : K.lookup f1 = some ⟨oc1, od1, .func (PySem.W.fnOf "tables_within" "tables_within" (defArgs (topS 6)) (defBody (topS 6)) (defScope (topS 6)) .none kV1 dc1 pm1 an1 cd1 ct1), sl1⟩) (c1 : PySem.W.codeIn K cd1 "tables_within" = true) (k1 : PySem.W.keepIn K (.ref f1) = true)
    {f2 : Addr} {od2 an2 : Option Addr} {sl2 : Array (Option Value)} {oc2 kV2 dc2 pm2 cd2 ct2 : Value}
    (a2 : PySem.W.nsIn K mainGlobals "next_cells" = some (some (.ref f2))) (l2 : K.lookup f2 = some ⟨oc2, od2, .func (PySem.W.fnOf "next_cells" "next_cells" (defArgs (topS 7)) (defBody (topS 7)) (defScope (topS 7)) .none kV2 dc2 pm2 an2 cd2 ct2), sl2⟩) (c2 : PySem.W.codeIn K cd2 "next_cells" = true) (k2 : PySem.W.keepIn K (.ref f2) = true)
    {f3 : Addr} {od3 an3 : Option Addr} {sl3 : Array (Option Value)} {oc3 kV3 dc3 pm3 cd3 ct3 : Value}
    (a3 : PySem.W.nsIn K mainGlobals "places_of" = some (some (.ref f3))) (l3 : K.lookup f3 = some ⟨oc3, od3, .func (PySem.W.fnOf "places_of" "places_of" (defArgs (topS 8)) (defBody (topS 8)) (defScope (topS 8)) .none kV3 dc3 pm3 an3 cd3 ct3), sl3⟩) (c3 : PySem.W.codeIn K cd3 "places_of" = true) (k3 : PySem.W.keepIn K (.ref f3) = true)
    {f4 : Addr} {od4 an4 : Option Addr} {sl4 : Array (Option Value)} {oc4 kV4 dc4 pm4 cd4 ct4 : Value}
    (a4 : PySem.W.nsIn K mainGlobals "end_of" = some (some (.ref f4))) (l4 : K.lookup f4 = some ⟨oc4, od4, .func (PySem.W.fnOf "end_of" "end_of" (defArgs (topS 9)) (defBody (topS 9)) (defScope (topS 9)) .none kV4 dc4 pm4 an4 cd4 ct4), sl4⟩) (c4 : PySem.W.codeIn K cd4 "end_of" = true) (k4 : PySem.W.keepIn K (.ref f4) = true)
    {f5 : Addr} {od5 an5 : Option Addr} {sl5 : Array (Option Value)} {oc5 kV5 dc5 pm5 cd5 ct5 : Value}
    (a5 : PySem.W.nsIn K mainGlobals "keeps" = some (some (.ref f5))) (l5 : K.lookup f5 = some ⟨oc5, od5, .func (PySem.W.fnOf "keeps" "keeps" (defArgs (topS 10)) (defBody (topS 10)) (defScope (topS 10)) .none kV5 dc5 pm5 an5 cd5 ct5), sl5⟩) (c5 : PySem.W.codeIn K cd5 "keeps" = true) (k5 : PySem.W.keepIn K (.ref f5) = true)
    {f6 : Addr} {od6 an6 : Option Addr} {sl6 : Array (Option Value)} {oc6 kV6 dc6 pm6 cd6 ct6 : Value}
    (a6 : PySem.W.nsIn K mainGlobals "first_table" = some (some (.ref f6))) (l6 : K.lookup f6 = some ⟨oc6, od6, .func (PySem.W.fnOf "first_table" "first_table" (defArgs (topS 11)) (defBody (topS 11)) (defScope (topS 11)) .none kV6 dc6 pm6 an6 cd6 ct6), sl6⟩) (c6 : PySem.W.codeIn K cd6 "first_table" = true) (k6 : PySem.W.keepIn K (.ref f6) = true)
    {f7 : Addr} {od7 an7 : Option Addr} {sl7 : Array (Option Value)} {oc7 kV7 dc7 pm7 cd7 ct7 : Value}
    (a7 : PySem.W.nsIn K mainGlobals "world_apart" = some (some (.ref f7))) (l7 : K.lookup f7 = some ⟨oc7, od7, .func (PySem.W.fnOf "world_apart" "world_apart" (defArgs (topS 12)) (defBody (topS 12)) (defScope (topS 12)) .none kV7 dc7 pm7 an7 cd7 ct7), sl7⟩) (c7 : PySem.W.codeIn K cd7 "world_apart" = true) (k7 : PySem.W.keepIn K (.ref f7) = true)
    {f8 : Addr} {od8 an8 : Option Addr} {sl8 : Array (Option Value)} {oc8 kV8 dc8 pm8 cd8 ct8 : Value}
    (a8 : PySem.W.nsIn K mainGlobals "_law_cell_at" = some (some (.ref f8))) (l8 : K.lookup f8 = some ⟨oc8, od8, .func (PySem.W.fnOf "_law_cell_at" "_law_cell_at" (defArgs (topS 14)) (defBody (topS 14)) (defScope (topS 14)) .none kV8 dc8 pm8 an8 cd8 ct8), sl8⟩) (c8 : PySem.W.codeIn K cd8 "_law_cell_at" = true) (k8 : PySem.W.keepIn K (.ref f8) = true)
    {f9 : Addr} {od9 an9 : Option Addr} {sl9 : Array (Option Value)} {oc9 kV9 dc9 pm9 cd9 ct9 : Value}
    (a9 : PySem.W.nsIn K mainGlobals "_law_letters" = some (some (.ref f9))) (l9 : K.lookup f9 = some ⟨oc9, od9, .func (PySem.W.fnOf "_law_letters" "_law_letters" (defArgs (topS 15)) (defBody (topS 15)) (defScope (topS 15)) .none kV9 dc9 pm9 an9 cd9 ct9), sl9⟩) (c9 : PySem.W.codeIn K cd9 "_law_letters" = true) (k9 : PySem.W.keepIn K (.ref f9) = true)
    {f10 : Addr} {od10 an10 : Option Addr} {sl10 : Array (Option Value)} {oc10 kV10 dc10 pm10 cd10 ct10 : Value}
    (a10 : PySem.W.nsIn K mainGlobals "_law_word" = some (some (.ref f10))) (l10 : K.lookup f10 = some ⟨oc10, od10, .func (PySem.W.fnOf "_law_word" "_law_word" (defArgs (topS 16)) (defBody (topS 16)) (defScope (topS 16)) .none kV10 dc10 pm10 an10 cd10 ct10), sl10⟩) (c10 : PySem.W.codeIn K cd10 "_law_word" = true) (k10 : PySem.W.keepIn K (.ref f10) = true)
    {f11 : Addr} {od11 an11 : Option Addr} {sl11 : Array (Option Value)} {oc11 kV11 dc11 pm11 cd11 ct11 : Value}
    (a11 : PySem.W.nsIn K mainGlobals "_law_within" = some (some (.ref f11))) (l11 : K.lookup f11 = some ⟨oc11, od11, .func (PySem.W.fnOf "_law_within" "_law_within" (defArgs (topS 17)) (defBody (topS 17)) (defScope (topS 17)) .none kV11 dc11 pm11 an11 cd11 ct11), sl11⟩) (c11 : PySem.W.codeIn K cd11 "_law_within" = true) (k11 : PySem.W.keepIn K (.ref f11) = true)
    {f12 : Addr} {od12 an12 : Option Addr} {sl12 : Array (Option Value)} {oc12 kV12 dc12 pm12 cd12 ct12 : Value}
    (a12 : PySem.W.nsIn K mainGlobals "_law_refused" = some (some (.ref f12))) (l12 : K.lookup f12 = some ⟨oc12, od12, .func (PySem.W.fnOf "_law_refused" "_law_refused" (defArgs (topS 18)) (defBody (topS 18)) (defScope (topS 18)) .none kV12 dc12 pm12 an12 cd12 ct12), sl12⟩) (c12 : PySem.W.codeIn K cd12 "_law_refused" = true) (k12 : PySem.W.keepIn K (.ref f12) = true)
    {f13 : Addr} {od13 an13 : Option Addr} {sl13 : Array (Option Value)} {oc13 kV13 dc13 pm13 cd13 ct13 : Value}
    (a13 : PySem.W.nsIn K mainGlobals "law" = some (some (.ref f13))) (l13 : K.lookup f13 = some ⟨oc13, od13, .func (PySem.W.fnOf "law" "law" (defArgs (topS 19)) (defBody (topS 19)) (defScope (topS 19)) .none kV13 dc13 pm13 an13 cd13 ct13), sl13⟩) (c13 : PySem.W.codeIn K cd13 "law" = true) (k13 : PySem.W.keepIn K (.ref f13) = true)
    (z_len : PySem.W.nsIn K mainGlobals "len" = some none)
    (z_range : PySem.W.nsIn K mainGlobals "range" = some none)
    {t_m_MOST_TABLES : Tok} (m_MOST_TABLES : PySem.W.nsIn K mainGlobals "MOST_TABLES" = some (some (.int 1000 t_m_MOST_TABLES)))
    (z_list : PySem.W.nsIn K mainGlobals "list" = some none)
    (z_reversed : PySem.W.nsIn K mainGlobals "reversed" = some none)
    (z_isinstance : PySem.W.nsIn K mainGlobals "isinstance" = some none)
    (z_ValueError : PySem.W.nsIn K mainGlobals "ValueError" = some none)
    (z_bool : PySem.W.nsIn K mainGlobals "bool" = some none) :
    ∃ fd : FuncData, (∀ (s : Shared) (v : Value), BindsTo s fd ⟨[v], []⟩ [("_law_script", v)]) ∧ ∀ base : Heap, K.In base → base.Ns mainGlobals mg → FnOk l.prog w K mg base (L2.CX l.prog w) 6 fa fd ["_law_script"] (spLaw K) := by
  have T : Txt (kx K C_LetterError C_NoWorld C_TooMany) mg := ⟨rfl,
    PySem.W.mg_of X G xg_LetterError,
    PySem.W.mg_of X G xg_NoWorld,
    PySem.W.mg_of X G xg_TooMany,
    xe_TooMany,
    kp_TooMany,
    sb_TooMany,
    ty_TooMany,
    (fun c b e => match c, e with | 0, e => by have e : some true = some b := e; cases e; exact exm_ofs sb_LetterError ic_LetterError ty_LetterError su_LetterError_LetterError | 1, e => by have e : some true = some b := e; cases e; exact exm_ofs sb_LetterError ic_LetterError ty_LetterError su_NoWorld_LetterError | 2, e => by have e : some true = some b := e; cases e; exact exm_ofs sb_LetterError ic_LetterError ty_LetterError su_TooMany_LetterError | n + 3, e => by have e : none = some b := e; cases e),
    ⟨xhn, xht⟩,
    (fun c b e => match c, e with | 0, e => by have e : some false = some b := e; cases e; exact ⟨⟨ic_LetterError, ga_LetterError, gg_LetterError, sb_LetterError, hc_LetterError, mo_LetterError⟩, kit_ofs ne_LetterError_NoWorld ic_NoWorld ty_NoWorld su_LetterError_NoWorld⟩ | 1, e => by have e : some true = some b := e; cases e; exact ⟨⟨ic_NoWorld, ga_NoWorld, gg_NoWorld, sb_NoWorld, hc_NoWorld, mo_NoWorld⟩, kit_self⟩ | 2, e => by have e : some false = some b := e; cases e; exact ⟨⟨ic_TooMany, ga_TooMany, gg_TooMany, sb_TooMany, hc_TooMany, mo_TooMany⟩, kit_ofs ne_TooMany_NoWorld ic_NoWorld ty_NoWorld su_TooMany_NoWorld⟩ | n + 3, e => by have e : none = some b := e; cases e),
    (fun c b e => match c, e with | 0, e => by have e : some true = some b := e; cases e; exact ⟨⟨ic_LetterError, ga_LetterError, gg_LetterError, sb_LetterError, hc_LetterError, mo_LetterError⟩, kit_VE sv_LetterError⟩ | 1, e => by have e : some true = some b := e; cases e; exact ⟨⟨ic_NoWorld, ga_NoWorld, gg_NoWorld, sb_NoWorld, hc_NoWorld, mo_NoWorld⟩, kit_VE sv_NoWorld⟩ | 2, e => by have e : some true = some b := e; cases e; exact ⟨⟨ic_TooMany, ga_TooMany, gg_TooMany, sb_TooMany, hc_TooMany, mo_TooMany⟩, kit_VE sv_TooMany⟩ | n + 3, e => by have e : none = some b := e; cases e),
    (fun c b e => match c, e with | 0, e => by have e : some false = some b := e; cases e; exact ⟨⟨ic_LetterError, ga_LetterError, gg_LetterError, sb_LetterError, hc_LetterError, mo_LetterError⟩, kit_ofs ne_LetterError_TooMany ic_TooMany ty_TooMany su_LetterError_TooMany⟩ | 1, e => by have e : some false = some b := e; cases e; exact ⟨⟨ic_NoWorld, ga_NoWorld, gg_NoWorld, sb_NoWorld, hc_NoWorld, mo_NoWorld⟩, kit_ofs ne_NoWorld_TooMany ic_TooMany ty_TooMany su_NoWorld_TooMany⟩ | 2, e => by have e : some true = some b := e; cases e; exact ⟨⟨ic_TooMany, ga_TooMany, gg_TooMany, sb_TooMany, hc_TooMany, mo_TooMany⟩, kit_self⟩ | n + 3, e => by have e : none = some b := e; cases e),
    ⟨_, _, fun_mk (st := topS 6) l1 c1 k1, PySem.W.mg_of X G a1⟩,
    ⟨_, _, fun_mk (st := topS 7) l2 c2 k2, PySem.W.mg_of X G a2⟩,
    ⟨_, _, fun_mk (st := topS 8) l3 c3 k3, PySem.W.mg_of X G a3⟩,
    ⟨_, _, fun_mk (st := topS 9) l4 c4 k4, PySem.W.mg_of X G a4⟩,
    ⟨_, _, fun_mk (st := topS 10) l5 c5 k5, PySem.W.mg_of X G a5⟩,
    ⟨_, _, fun_mk (st := topS 11) l6 c6 k6, PySem.W.mg_of X G a6⟩,
    ⟨_, _, fun_mk (st := topS 12) l7 c7 k7, PySem.W.mg_of X G a7⟩,
    ⟨_, _, fun_mk (st := topS 14) l8 c8 k8, PySem.W.mg_of X G a8⟩,
    ⟨_, _, fun_mk (st := topS 15) l9 c9 k9, PySem.W.mg_of X G a9⟩,
    ⟨_, _, fun_mk (st := topS 16) l10 c10 k10, PySem.W.mg_of X G a10⟩,
    ⟨_, _, fun_mk (st := topS 17) l11 c11 k11, PySem.W.mg_of X G a11⟩,
    ⟨_, _, fun_mk (st := topS 18) l12 c12 k12, PySem.W.mg_of X G a12⟩,
    ⟨_, _, fun_mk (st := topS 19) l13 c13 k13, PySem.W.mg_of X G a13⟩,
    PySem.W.mg_none_of X G z_len,
    PySem.W.mg_none_of X G z_range,
    ⟨_, PySem.W.mg_of X G m_MOST_TABLES⟩,
    PySem.W.mg_none_of X G z_list,
    PySem.W.mg_none_of X G z_reversed,
    PySem.W.mg_none_of X G z_isinstance,
    PySem.W.mg_none_of X G z_ValueError,
    PySem.W.mg_none_of X G z_bool⟩
  have e := hfa.symm.trans (PySem.W.mg_of X G a13)
  cases e
  have F := fun_mk (st := topS 19) l13 c13 k13
  refine ⟨PySem.W.fnOf "law" "law" (defArgs (topS 19)) (defBody (topS 19)) (defScope (topS 19)) .none kV13 dc13 pm13 an13 cd13 ct13, fun s v => ?_, fun base hb hg => ?_⟩
  · exact .of_eq rfl
  · have K_tables_within : VFn l.prog w (kx K C_LetterError C_NoWorld C_TooMany) mg base "tables_within" 1 [true, true] g_tables_within := ok_tables_within T
    have K_next_cells : VFn l.prog w (kx K C_LetterError C_NoWorld C_TooMany) mg base "next_cells" 1 [true, true] g_next_cells := ok_next_cells T
    have K_places_of : VFn l.prog w (kx K C_LetterError C_NoWorld C_TooMany) mg base "places_of" 1 [true, true] g_places_of := ok_places_of T
    have K_end_of : VFn l.prog w (kx K C_LetterError C_NoWorld C_TooMany) mg base "end_of" 1 [true, true, false, true] g_end_of := ok_end_of T
    have K_keeps : VFn l.prog w (kx K C_LetterError C_NoWorld C_TooMany) mg base "keeps" 2 [true, true, true, true] g_keeps := ok_keeps T K_end_of
    have K_first_table : VFn l.prog w (kx K C_LetterError C_NoWorld C_TooMany) mg base "first_table" 3 [true, true, true, true, true] g_first_table := ok_first_table T K_end_of K_keeps K_next_cells
    have K_world_apart : VFn l.prog w (kx K C_LetterError C_NoWorld C_TooMany) mg base "world_apart" 4 [true, true, true, true, true] g_world_apart := ok_world_apart T K_tables_within K_places_of K_first_table
    have K_law_cell_at : VFn l.prog w (kx K C_LetterError C_NoWorld C_TooMany) mg base "_law_cell_at" 1 [true, true] g_law_cell_at := ok_law_cell_at T
    have K_law_letters : VFn l.prog w (kx K C_LetterError C_NoWorld C_TooMany) mg base "_law_letters" 1 [true, true] g_law_letters := ok_law_letters T
    have K_law_word : VFn l.prog w (kx K C_LetterError C_NoWorld C_TooMany) mg base "_law_word" 1 [true, true, true] g_law_word := ok_law_word T
    have K_law_within : VFn l.prog w (kx K C_LetterError C_NoWorld C_TooMany) mg base "_law_within" 1 [true, true] g_law_within := ok_law_within T
    have K_law_refused : VFn l.prog w (kx K C_LetterError C_NoWorld C_TooMany) mg base "_law_refused" 5 [true, true, true, true, true] g_law_refused := ok_law_refused T K_world_apart
    exact (fn_law F T K_law_cell_at K_law_letters K_law_within K_tables_within K_law_word K_world_apart K_law_refused).imp (law_sp (κ := (kx K C_LetterError C_NoWorld C_TooMany)) law_true)
end Lw
open PySem PySem.W PyProof.Rows
set_option maxRecDepth 100000 in
set_option maxHeartbeats 0 in
theorem PySem.Challenge.cw_letterlaw_k66_tables_within_holds : PySem.Challenge.rw_letterlaw_k66_tables_within.Holds := by
  w_on; o_law; k_head; (case hw => w_witness2)
  k_fill
  refine Vs.walk_law (l := PySem.Challenge.rw_letterlaw_k66_tables_within) (x := "_law_script") (k := 6) rfl rfl ⟨rfl, by decide, by decide⟩ (fun w h Y => PySem.W.kIn_of Y) ?F
  case F =>
    intro w mg fa h KX G hmg
    refine' Lw.all_mk KX G hmg ?xg_LetterError ?xg_NoWorld ?xg_TooMany ?xe_TooMany ?kp_TooMany ?sb_TooMany ?ty_TooMany ?sb_LetterError ?ic_LetterError ?ty_LetterError ?su_LetterError_LetterError ?su_NoWorld_LetterError ?su_TooMany_LetterError ?xhn ?xht ?ga_LetterError ?gg_LetterError ?hc_LetterError ?mo_LetterError ?ic_NoWorld ?ty_NoWorld ?su_LetterError_NoWorld ?ne_LetterError_NoWorld ?ga_NoWorld ?gg_NoWorld ?sb_NoWorld ?hc_NoWorld ?mo_NoWorld ?ic_TooMany ?ga_TooMany ?gg_TooMany ?hc_TooMany ?mo_TooMany ?su_TooMany_NoWorld ?ne_TooMany_NoWorld ?sv_LetterError ?sv_NoWorld ?sv_TooMany ?su_LetterError_TooMany ?ne_LetterError_TooMany ?su_NoWorld_TooMany ?ne_NoWorld_TooMany ?a1 ?l1 ?c1 ?k1 ?a2 ?l2 ?c2 ?k2 ?a3 ?l3 ?c3 ?k3 ?a4 ?l4 ?c4 ?k4 ?a5 ?l5 ?c5 ?k5 ?a6 ?l6 ?c6 ?k6 ?a7 ?l7 ?c7 ?k7 ?a8 ?l8 ?c8 ?k8 ?a9 ?l9 ?c9 ?k9 ?a10 ?l10 ?c10 ?k10 ?a11 ?l11 ?c11 ?k11 ?a12 ?l12 ?c12 ?k12 ?a13 ?l13 ?c13 ?k13 ?z_len ?z_range ?m_MOST_TABLES ?z_list ?z_reversed ?z_isinstance ?z_ValueError ?z_bool
    (case xg_LetterError => k_is)
    (case xg_NoWorld => k_is)
    (case xg_TooMany => k_is)
    (case xe_TooMany => k_exc)
    (case kp_TooMany => k_is)
    (case sb_TooMany => k_is)
    (case ty_TooMany => k_is)
    (case sb_LetterError => k_is)
    (case ic_LetterError => k_is)
    (case ty_LetterError => k_is)
    (case su_LetterError_LetterError => first | rfl | k_is)
    (case su_NoWorld_LetterError => first | rfl | k_is)
    (case su_TooMany_LetterError => first | rfl | k_is)
    (case xhn => k_is)
    (case xht => k_is)
    (case ga_LetterError => k_is)
    (case gg_LetterError => k_is)
    (case hc_LetterError => k_is)
    (case mo_LetterError => k_is)
    (case ic_NoWorld => k_is)
    (case ty_NoWorld => k_is)
    (case su_LetterError_NoWorld => first | rfl | k_is)
    (case ne_LetterError_NoWorld => first | rfl | decide +kernel)
    (case ga_NoWorld => k_is)
    (case gg_NoWorld => k_is)
    (case sb_NoWorld => k_is)
    (case hc_NoWorld => k_is)
    (case mo_NoWorld => k_is)
    (case ic_TooMany => k_is)
    (case ga_TooMany => k_is)
    (case gg_TooMany => k_is)
    (case hc_TooMany => k_is)
    (case mo_TooMany => k_is)
    (case su_TooMany_NoWorld => first | rfl | k_is)
    (case ne_TooMany_NoWorld => first | rfl | decide +kernel)
    (case sv_LetterError => k_is)
    (case sv_NoWorld => k_is)
    (case sv_TooMany => k_is)
    (case su_LetterError_TooMany => first | rfl | k_is)
    (case ne_LetterError_TooMany => first | rfl | decide +kernel)
    (case su_NoWorld_TooMany => first | rfl | k_is)
    (case ne_NoWorld_TooMany => first | rfl | decide +kernel)
    (case a1 => k_is)
    (case l1 => k_is)
    (case c1 => k_is)
    (case k1 => k_is)
    (case a2 => k_is)
    (case l2 => k_is)
    (case c2 => k_is)
    (case k2 => k_is)
    (case a3 => k_is)
    (case l3 => k_is)
    (case c3 => k_is)
    (case k3 => k_is)
    (case a4 => k_is)
    (case l4 => k_is)
    (case c4 => k_is)
    (case k4 => k_is)
    (case a5 => k_is)
    (case l5 => k_is)
    (case c5 => k_is)
    (case k5 => k_is)
    (case a6 => k_is)
    (case l6 => k_is)
    (case c6 => k_is)
    (case k6 => k_is)
    (case a7 => k_is)
    (case l7 => k_is)
    (case c7 => k_is)
    (case k7 => k_is)
    (case a8 => k_is)
    (case l8 => k_is)
    (case c8 => k_is)
    (case k8 => k_is)
    (case a9 => k_is)
    (case l9 => k_is)
    (case c9 => k_is)
    (case k9 => k_is)
    (case a10 => k_is)
    (case l10 => k_is)
    (case c10 => k_is)
    (case k10 => k_is)
    (case a11 => k_is)
    (case l11 => k_is)
    (case c11 => k_is)
    (case k11 => k_is)
    (case a12 => k_is)
    (case l12 => k_is)
    (case c12 => k_is)
    (case k12 => k_is)
    (case a13 => k_is)
    (case l13 => k_is)
    (case c13 => k_is)
    (case k13 => k_is)
    (case z_len => k_is)
    (case z_range => k_is)
    (case m_MOST_TABLES => k_is)
    (case z_list => k_is)
    (case z_reversed => k_is)
    (case z_isinstance => k_is)
    (case z_ValueError => k_is)
    (case z_bool => k_is)
