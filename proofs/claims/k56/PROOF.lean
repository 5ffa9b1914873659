import PyProof.Rows.All
import Wide.All
import OpenK.AllK
import Wide.FinOn
import HandS.ForMost
import HandS.ForExc
import HandS.Codes
import HandS.HeadHook1
import HandS.Deep
import HandS.NoneIn
import HandS.SetBool
import HandS.SetFor
import HandS.Strs
import KE.SortData
import HandS.Defaults
import Lean
import KE.KStateDown
import HandS.Head0
import HandS.Head1
import HandS.Head2
import HandS.HeadEnd
import HandS.HeadHook2
import PySem.Challenge.RW_rivalkeys_k56_keys_that_are_near
/-! TLa: the tree layer, plain part: values as trees, outcomes, the combinators that a def's body becomes. No Python model here. -/
namespace TL
abbrev Tx := List Nat
def LIM : Nat := 16777216
/-- values as trees; obj k: the k-th cell of the store; ins c fs: a frozen instance of class c; fn f: a def of the module -/
inductive D where
  | non | bl (b : Bool) | int (i : Int) | str (x : Tx) | tup (xs : List D) | lst (xs : List D) | dct (kvs : List (D × D))
  | ins (c : Nat) (fs : List D) | obj (k : Nat)
  deriving Inhabited
/-- what a name of the frame holds -/
inductive Slot where
  | no | val (d : D) | own (d : D)
  deriving Inhabited
abbrev Store := List D
abbrev Fr := List Slot
inductive Out (α : Type) where
  | ok (a : α) (m : Store) | exc (c : Nat) (fs : List D) (m : Store) | bad
abbrev M (α : Type) := Store → Out α
/-- an expression -/
abbrev GE := Fr → M D
abbrev GB := Fr → M Bool
abbrev GA := Fr → M (List D)
def Out.bind {α β : Type} (o : Out α) (f : α → Store → Out β) : Out β :=
  match o with
  | .ok a m => f a m
  | .exc c fs m => .exc c fs m
  | .bad => .bad
def ret {α : Type} (a : α) : M α := fun m => .ok a m
def lift {α : Type} (o : Option α) : M α := fun m => match o with
  | some a => .ok a m
  | none => .bad
inductive SOut where
  | next (t : Fr) (m : Store) | ret (fresh : Bool) (d : D) (m : Store) | exc (c : Nat) (fs : List D) (t : Fr) (m : Store)
  | brk (t : Fr) (m : Store) | cont (t : Fr) (m : Store) | bad
abbrev GS := Fr → Store → SOut
/-! ### expressions -/
def gC (d : D) : GE := fun _ => ret d
/-- a name whose value is a tree -/
def gVar (i : Nat) : GE := fun t => lift (match t[i]? with
  | some (.val d) => some d
  | _ => none)
/-- a name, looked at only -/
def gSee (i : Nat) : GE := fun t => lift (match t[i]? with
  | some (.val d) => some d
  | some (.own d) => some d
  | _ => none)
def g1 (f : D → Option D) (a : GE) : GE := fun t m => (a t m).bind fun x m => lift (f x) m
def g2 (f : D → D → Option D) (a b : GE) : GE := fun t m => (a t m).bind fun x m => (b t m).bind fun y m => lift (f x y) m
def gNil : GA := fun _ => ret []
def gCons (a : GE) (r : GA) : GA := fun t m => (a t m).bind fun x m => (r t m).bind fun xs m => .ok (x :: xs) m
def gL (f : List D → Option D) (a : GA) : GE := fun t m => (a t m).bind fun xs m => lift (f xs) m
/-- a call of a def: args, the def's outcome -/
def gCall (f : List D → M D) (a : GA) : GE := fun t m => (a t m).bind fun xs m => f xs m
def gIf (c : GB) (a b : GE) : GE := fun t m => (c t m).bind fun k m => if k = true then a t m else b t m
/-! tests -/
def tB (a : GE) : GB := fun t m => (a t m).bind fun x m => match x with
  | .bl b => .ok b m
  | _ => .bad
def tAnd (a b : GB) : GB := fun t m => (a t m).bind fun k m => if k = true then b t m else .ok false m
def tOr (a b : GB) : GB := fun t m => (a t m).bind fun k m => if k = true then .ok true m else b t m
def tNot (a : GB) : GB := fun t m => (a t m).bind fun k m => .ok (!k) m
def bV (a : GB) : GE := fun t m => (a t m).bind fun k m => .ok (.bl k) m
def tYes : GB := fun _ => ret true
/-! ### what a for or a comprehension binds -/
inductive Tg where
  | nm (i : Nat) | tp (l : List Nat)
def setAll : List Nat → List D → Fr → Option Fr
  | [], [], t => some t
  | i :: is, d :: ds, t => setAll is ds (t.set i (.val d))
  | _, _, _ => none
def Tg.bind : Tg → D → Fr → Option Fr
  | .nm i, d, t => some (t.set i (.val d))
  | .tp l, .tup ds, t => setAll l ds t
  | .tp _, _, _ => none
def Tg.ix : Tg → List Nat
  | .nm i => [i]
  | .tp l => l
def wipeF (t : Fr) : List Nat → Fr
  | [] => t
  | v :: vs => (wipeF t vs).set v .no
/-- the items that are walked -/
abbrev GI := Fr → M (List D)
def lcM (g : Tg) (c : GB) (e : GE) (t : Fr) : List D → List D → M (List D)
  | [], acc, m => .ok acc m
  | d :: ds, acc, m => match g.bind d t with
    | none => .bad
    | some t' => match c t' m with
      | .ok true m' => (match e t' m' with
        | .ok x m'' => if acc.length < LIM then lcM g c e t ds (acc ++ [x]) m'' else .bad
        | _ => .bad)
      | .ok false m' => lcM g c e t ds acc m'
      | _ => .bad
def noOwn (t : Fr) (vs : List Nat) : Bool := vs.all fun v => match t[v]? with
  | some (.own _) => false
  | _ => true
def gLc (vs : List Nat) (it : GI) (g : Tg) (c : GB) (e : GE) : GE := fun t m => if noOwn t vs = true then ((it t m).bind fun ds m => (lcM g c e (wipeF t vs) ds [] m).bind fun xs m => .ok (.lst xs) m) else .bad
/-- the items of a list or a tuple -/
def itemsOf : D → Option (List D)
  | .lst ds => some ds
  | .tup ds => some ds
  | _ => none
def iSeq (e : GE) : GI := fun t m => (e t m).bind fun d m => match itemsOf d with
  | some ds => .ok ds m
  | none => .bad
def BIG : Int := 4611686018427387904
def rng (lo : Int) (n : Nat) : List D := (List.range n).map fun (i : Nat) => .int (lo + (i : Int))
def iRng1 (e : GA) : GI := fun t m => (e t m).bind fun ds m => match ds with
  | [.int j] => if -BIG ≤ j ∧ j < BIG then .ok (rng 0 j.toNat) m else .bad
  | _ => .bad
def iRng2 (e : GA) : GI := fun t m => (e t m).bind fun ds m => match ds with
  | [.int i, .int j] => if (-BIG ≤ i ∧ i < BIG) ∧ -BIG ≤ j ∧ j < BIG then .ok (rng i (j - i).toNat) m else .bad
  | _ => .bad
/-! ### statements -/
def sNil : GS := fun t m => .next t m
def sSeq (a b : GS) : GS := fun t m => match a t m with
  | .next t' m' => b t' m'
  | o => o
def ofE (o : Out D) (t : Fr) (k : D → Store → SOut) : SOut := match o with
  | .ok d m => k d m
  | .exc c fs m => .exc c fs t m
  | .bad => .bad
def ofB (o : Out Bool) (t : Fr) (k : Bool → Store → SOut) : SOut := match o with
  | .ok d m => k d m
  | .exc c fs m => .exc c fs t m
  | .bad => .bad
def ofL (o : Out (List D)) (t : Fr) (k : List D → Store → SOut) : SOut := match o with
  | .ok d m => k d m
  | .exc c fs m => .exc c fs t m
  | .bad => .bad
/-- x = e, e a tree -/
def sSet (i : Nat) (e : GE) : GS := fun t m => ofE (e t m) t fun d m => .next (t.set i (.val d)) m
def slotOf : D → Slot
  | .lst xs => .own (.lst xs)
  | .dct kvs => .own (.dct kvs)
  | .ins c fs => .own (.ins c fs)
  | d => .val d
/-- x = e, e newly made -/
def sNew (i : Nat) (e : GE) : GS := fun t m => ofE (e t m) t fun d m => .next (t.set i (slotOf d)) m
/-- a, b = e (a tuple) -/
def sTup (l : List Nat) (e : GE) : GS := fun t m => ofE (e t m) t fun d m => match (Tg.tp l).bind d t with
  | some t' => .next t' m
  | none => .bad
def sExpr (e : GE) : GS := fun t m => ofE (e t m) t fun _ m => .next t m
def sRet (e : GE) : GS := fun t m => ofE (e t m) t fun d m => .ret false d m
def sRetF (e : GE) : GS := fun t m => ofE (e t m) t fun d m => .ret true d m
/-- return x, x a thing of one's own -/
def sRetOwn (i : Nat) : GS := fun t m => match t[i]? with
  | some (.own d) => .ret true d m
  | some (.val d) => .ret false d m
  | _ => .bad
def sRetN : GS := fun _ m => .ret false .non m
def sIf (c : GB) (a b : GS) : GS := fun t m => ofB (c t m) t fun k m => if k = true then a t m else b t m
/-- nothing happens: what stands at i is from here on a tree -/
def sFreeze (i : Nat) : GS := fun t m => match t[i]? with
  | some (.own d) => .next (t.set i (.val d)) m
  | some (.val _) => .next t m
  | _ => .bad
def forM (g : Tg) (body : GS) : List D → GS
  | [], t, m => .next t m
  | d :: ds, t, m => match g.bind d t with
    | none => .bad
    | some t1 => match body t1 m with
      | .next t' m' => forM g body ds t' m'
      | .cont t' m' => forM g body ds t' m'
      | .brk t' m' => .next t' m'
      | .ret f d m' => .ret f d m'
      | .exc c fs t' m' => .exc c fs t' m'
      | .bad => .bad
def sFor (it : GI) (g : Tg) (body : GS) : GS := fun t m => ofL (it t m) t fun ds m => forM g body ds t m
/-- the n-th turn is the last at most -/
def whM (c : GB) (body : GS) : Nat → GS
  | 0, _, _ => .bad
  | n + 1, t, m => ofB (c t m) t fun k m => if k = true then (match body t m with
      | .next t' m' => whM c body n t' m'
      | .cont t' m' => whM c body n t' m'
      | .brk t' m' => .next t' m'
      | .ret f d m' => .ret f d m'
      | .exc c fs t' m' => .exc c fs t' m'
      | .bad => .bad) else .next t m
def sWhile (n : Nat) (c : GB) (body : GS) : GS := whM c body n
def sBrk : GS := fun t m => .brk t m
def sCont : GS := fun t m => .cont t m
/-- xs.append(e) -/
def sApp (i : Nat) (e : GE) : GS := fun t m => match t[i]? with
  | some (.own (.lst xs)) => ofE (e t m) t fun d m => if xs.length < LIM then .next (t.set i (.own (.lst (xs ++ [d])))) m else .bad
  | _ => .bad
/-- a def's outcome: its body at its parameters' values; np parameters, n names in all -/
def fnM (np n : Nat) (body : GS) (ds : List D) (m : Store) : Out (Bool × D) := if ds.length = np then (match body (ds.map .val ++ List.replicate (n - ds.length) .no) m with
  | .ret f d m' => .ok (f, d) m'
  | .next _ m' => .ok (false, .non) m'
  | .exc c fs _ m' => .exc c fs m'
  | _ => .bad) else .bad
abbrev DF := List D → Store → Out (Bool × D)
/-- the flag dropped -/
def out1 (o : Out (Bool × D)) : Out D := match o with
  | .ok (_, d) m => .ok d m
  | .exc c fs m => .exc c fs m
  | .bad => .bad
def dfM (f : DF) (ds : List D) : M D := fun m => out1 (f ds m)
end TL
set_option Elab.async false
set_option linter.all false
set_option maxRecDepth 100000
set_option maxHeartbeats 2000000
/-! TLb: how trees lie in the abstract heap; the judgements. -/
namespace TL
open PySem PySem.Spec
open PyProof.Rows hiding St
open L2 (V HO Hp Cx Inv St VK TE TS Ends SqL SqT upd upd_same upd_ne ne_of ne_of_none Rd Mut EP SP PE PS PSs PT TP WX Takes RelV Vals Key kV)
/-- the static facts of a text: its written part, its classes by number: name, attributes in their order -/
structure Tab where
  K : PySem.W.Frag
  cl : List (Str × List Str)
def Tab.ad (T : Tab) (c : Nat) : Addr := He.ga T.K (T.cl.getD c ("", [])).1
def Tab.at (T : Tab) (c : Nat) : List Str := (T.cl.getD c ("", [])).2
def keyD : Key → D
  | .inl i => .int i
  | .inr x => .str x.cps.toList
def Fz (K : PySem.W.Frag) (H : Hp) (a : Addr) (vs : List V) : Prop :=
  (∃ o, H a = some (.frz o (.lst vs))) ∨
    ∃ (o : Obj) (its : Array Value) (n : Nat), K.lookup a = some o ∧ o.cls = .type "list" ∧ o.dict = none ∧ o.data = .seq its n ∧ its.size ≤ sizeLine ∧ Vals vs its.toList
theorem Fz.sq {K : PySem.W.Frag} {H : Hp} {a : Addr} {vs : List V} (h : Fz K H a vs) : SqL K H a vs := by
  rcases h with ⟨o, h⟩ | h
  · exact .inl (.inr ⟨o, h⟩)
  · exact .inr h
mutual
inductive Rep (T : Tab) (io : List Addr) (H : Hp) : V → D → Prop
  | non : Rep T io H .non .non
  | bl (b : Bool) : Rep T io H (.bl b) (.bl b)
  | int (i : Int) : Rep T io H (.int i) (.int i)
  | str (x : Str) : Rep T io H (.str x) (.str x.cps.toList)
  | tup {a : Addr} {vs : List V} {ds : List D} : SqT T.K H a vs → Reps T io H vs ds → Rep T io H (.ref a) (.tup ds)
  | lst {a : Addr} {vs : List V} {ds : List D} : Fz T.K H a vs → Reps T io H vs ds → Rep T io H (.ref a) (.lst ds)
  | dct {a : Addr} {o : Obj} {kvs : List (Key × V)} {ds : List (D × D)} : H a = some (.frz o (.dK kvs)) → Repk T io H kvs ds → Rep T io H (.ref a) (.dct ds)
  | dcT {a : Addr} {o : Obj} {kvs : List (List Key × V)} {ds : List (D × D)} : H a = some (.frz o (.dT kvs)) → Rept T io H kvs ds → Rep T io H (.ref a) (.dct ds)
  | ins {a dx : Addr} {o : Obj} {fs : List (Str × V)} {c : Nat} {vs : List V} {ds : List D} : H a = some (.frz o (.ins (T.ad c) dx fs)) → fs = (T.at c).zip vs → vs.length = (T.at c).length → Reps T io H vs ds → Rep T io H (.ref a) (.ins c ds)
  | obj {a : Addr} {k : Nat} : io[k]? = some a → Rep T io H (.ref a) (.obj k)
inductive Reps (T : Tab) (io : List Addr) (H : Hp) : List V → List D → Prop
  | nil : Reps T io H [] []
  | cons {v : V} {vs : List V} {d : D} {ds : List D} : Rep T io H v d → Reps T io H vs ds → Reps T io H (v :: vs) (d :: ds)
inductive Repk (T : Tab) (io : List Addr) (H : Hp) : List (Key × V) → List (D × D) → Prop
  | nil : Repk T io H [] []
  | cons {k : Key} {v : V} {vs : List (Key × V)} {d : D} {ds : List (D × D)} : Rep T io H v d → Repk T io H vs ds → Repk T io H ((k, v) :: vs) ((keyD k, d) :: ds)
inductive Rept (T : Tab) (io : List Addr) (H : Hp) : List (List Key × V) → List (D × D) → Prop
  | nil : Rept T io H [] []
  | cons {k : List Key} {v : V} {vs : List (List Key × V)} {d : D} {ds : List (D × D)} : Rep T io H v d → Rept T io H vs ds → Rept T io H ((k, v) :: vs) ((.tup (k.map keyD), d) :: ds)
end
/-- what every step keeps -/
structure Keep (H H' : Hp) : Prop where
  tup : ∀ b xs, H b = some (.tup xs) → H' b = some (.tup xs)
  frz : ∀ b o u, H b = some (.frz o u) → H' b = some (.frz o u)
theorem Keep.refl (H : Hp) : Keep H H := ⟨fun _ _ h => h, fun _ _ _ h => h⟩
theorem Keep.trans {H H1 H2 : Hp} (a : Keep H H1) (b : Keep H1 H2) : Keep H H2 := ⟨fun c xs h => b.tup _ _ (a.tup c xs h), fun c o u h => b.frz _ _ _ (a.frz c o u h)⟩
/-- a free place, or a thing that may be written -/
theorem Keep.upd {H : Hp} {p : Addr} {o : HO} (h : H p = none ∨ Mut (H p)) : Keep H (upd H p o) := by
  have ne : ∀ b u, H b = some u → ¬ Mut (some u) → b ≠ p := fun b u e nm z => by
    rw [z] at e
    rcases h with h | h
    · rw [e] at h; cases h
    · rw [e] at h; exact nm h
  exact ⟨fun b xs e => by rw [upd_ne (ne b _ e fun z => z)]; exact e, fun b o' u e => by rw [upd_ne (ne b _ e fun z => z)]; exact e⟩
theorem Keep.rdT {H H' : Hp} {a : Addr} {vs : List V} {K : PySem.W.Frag} (k : Keep H H') (h : SqT K H a vs) : SqT K H' a vs := by
  rcases h with (h | ⟨o, h⟩) | h
  · exact .inl (.inl (k.tup _ _ h))
  · exact .inl (.inr ⟨o, k.frz _ _ _ h⟩)
  · exact .inr h
theorem Keep.fz {H H' : Hp} {a : Addr} {vs : List V} {K : PySem.W.Frag} (k : Keep H H') (h : Fz K H a vs) : Fz K H' a vs := by
  rcases h with ⟨o, h⟩ | h
  · exact .inl ⟨o, k.frz _ _ _ h⟩
  · exact .inr h
section
variable {T : Tab} {io io' : List Addr} {H H' : Hp}
theorem pre_get {l l' : List Addr} (h : l <+: l') {k : Nat} {a : Addr} (e : l[k]? = some a) : l'[k]? = some a := by
  obtain ⟨r, rfl⟩ := h
  rw [List.getElem?_append_left (List.getElem?_eq_some_iff.mp e).1]
  exact e
mutual
theorem Rep.mono (k : Keep H H') (p : io <+: io') : ∀ {v : V} {d : D}, Rep T io H v d → Rep T io' H' v d
  | _, _, .non => .non
  | _, _, .bl b => .bl b
  | _, _, .int i => .int i
  | _, _, .str x => .str x
  | _, _, .tup h r => .tup (k.rdT h) (Reps.mono k p r)
  | _, _, .lst h r => .lst (k.fz h) (Reps.mono k p r)
  | _, _, .dct h r => .dct (k.frz _ _ _ h) (Repk.mono k p r)
  | _, _, .dcT h r => .dcT (k.frz _ _ _ h) (Rept.mono k p r)
  | _, _, .ins h e l r => .ins (k.frz _ _ _ h) e l (Reps.mono k p r)
  | _, _, .obj h => .obj (pre_get p h)
theorem Reps.mono (k : Keep H H') (p : io <+: io') : ∀ {v : List V} {d : List D}, Reps T io H v d → Reps T io' H' v d
  | _, _, .nil => .nil
  | _, _, .cons a b => .cons (Rep.mono k p a) (Reps.mono k p b)
theorem Repk.mono (k : Keep H H') (p : io <+: io') : ∀ {v : List (Key × V)} {d : List (D × D)}, Repk T io H v d → Repk T io' H' v d
  | _, _, .nil => .nil
  | _, _, .cons a b => .cons (Rep.mono k p a) (Repk.mono k p b)
theorem Rept.mono (k : Keep H H') (p : io <+: io') : ∀ {v : List (List Key × V)} {d : List (D × D)}, Rept T io H v d → Rept T io' H' v d
  | _, _, .nil => .nil
  | _, _, .cons a b => .cons (Rep.mono k p a) (Rept.mono k p b)
end
theorem Reps.length : ∀ {vs : List V} {ds : List D}, Reps T io H vs ds → vs.length = ds.length
  | _, _, .nil => rfl
  | _, _, .cons _ b => congrArg (· + 1) b.length
theorem Reps.app : ∀ {vs : List V} {ds : List D} {us : List V} {es : List D}, Reps T io H vs ds → Reps T io H us es → Reps T io H (vs ++ us) (ds ++ es)
  | _, _, _, _, .nil, b => b
  | _, _, _, _, .cons a r, b => .cons a (r.app b)
theorem Reps.get : ∀ {vs : List V} {ds : List D} {i : Nat} {d : D}, Reps T io H vs ds → ds[i]? = some d → ∃ v, vs[i]? = some v ∧ Rep T io H v d
  | _, _, i, _, .nil, e => by simp at e
  | _, _, 0, _, .cons a _, e => by simp at e; subst e; exact ⟨_, rfl, a⟩
  | _, _, i + 1, _, .cons _ r, e => by
    obtain ⟨v, h1, h2⟩ := r.get (i := i) (by simpa using e)
    exact ⟨v, by simpa using h1, h2⟩
theorem Reps.get' {vs : List V} {ds : List D} {i : Nat} {v : V} (r : Reps T io H vs ds) (e : vs[i]? = some v) : ∃ d, ds[i]? = some d ∧ Rep T io H v d := by
  have h : i < ds.length := by rw [← r.length]; exact (List.getElem?_eq_some_iff.mp e).1
  obtain ⟨w, h1, h2⟩ := r.get (i := i) (d := ds[i]) (List.getElem?_eq_getElem h)
  rw [e] at h1
  cases h1
  exact ⟨_, List.getElem?_eq_getElem h, h2⟩
theorem Reps.take : ∀ {vs : List V} {ds : List D} (n : Nat), Reps T io H vs ds → Reps T io H (vs.take n) (ds.take n)
  | _, _, 0, _ => .nil
  | _, _, _ + 1, .nil => .nil
  | _, _, n + 1, .cons a r => .cons a (r.take n)
theorem Reps.drop : ∀ {vs : List V} {ds : List D} (n : Nat), Reps T io H vs ds → Reps T io H (vs.drop n) (ds.drop n)
  | _, _, 0, r => r
  | _, _, _ + 1, .nil => .nil
  | _, _, n + 1, .cons _ r => r.drop n
theorem Reps.set : ∀ {vs : List V} {ds : List D} {v : V} {d : D} (i : Nat), Reps T io H vs ds → Rep T io H v d → Reps T io H (vs.set i v) (ds.set i d)
  | _, _, _, _, _, .nil, _ => .nil
  | _, _, _, _, 0, .cons _ r, b => .cons b r
  | _, _, _, _, i + 1, .cons a r, b => .cons a (r.set i b)
end
/-! ### the state -/
/-- H0, i0: at the entry; io, mu: the store's cells; ps: where the frame's own things stand -/
structure Sx where
  H0 : Hp
  i0 : List Addr
  io : List Addr
  mu : Store
  ps : List (Option Addr)
def OwnAt (T : Tab) (io : List Addr) (H : Hp) (p : Addr) : D → Prop
  | .lst ds => ∃ vs, H p = some (.lst vs) ∧ Reps T io H vs ds
  | .dct ds => (∃ kvs, H p = some (.dK kvs) ∧ Repk T io H kvs ds) ∨ ∃ kvs, H p = some (.dT kvs) ∧ Rept T io H kvs ds
  | .ins c ds => ∃ dx fs vs, H p = some (.ins (T.ad c) dx fs) ∧ fs = (T.at c).zip vs ∧ vs.length = (T.at c).length ∧ Reps T io H vs ds
  | _ => False
def Thing : D → Prop
  | .lst _ => True
  | .dct _ => True
  | .ins _ _ => True
  | _ => False
theorem OwnAt.thing {T : Tab} {io : List Addr} {H : Hp} {p : Addr} {d : D} (h : OwnAt T io H p d) : Thing d := by
  cases d <;> first | trivial | exact h.elim
theorem OwnAt.mut {T : Tab} {io : List Addr} {H : Hp} {p : Addr} {d : D} (h : OwnAt T io H p d) : ∃ u, H p = some u ∧ Mut (some u) := by
  cases d with
  | lst ds => obtain ⟨vs, h, _⟩ := h; exact ⟨_, h, trivial⟩
  | dct ds =>
    rcases h with ⟨vs, h, _⟩ | ⟨vs, h, _⟩
    · exact ⟨_, h, trivial⟩
    · exact ⟨_, h, trivial⟩
  | ins c ds => obtain ⟨dx, fs, vs, h, _⟩ := h; exact ⟨_, h, trivial⟩
  | _ => exact h.elim
theorem OwnAt.mono {T : Tab} {io io' : List Addr} {H H' : Hp} {p : Addr} {d : D} (k : Keep H H') (q : io <+: io') (e : H' p = H p) (h : OwnAt T io H p d) : OwnAt T io' H' p d := by
  cases d with
  | lst ds => obtain ⟨vs, h, r⟩ := h; exact ⟨vs, by rw [e]; exact h, r.mono k q⟩
  | dct ds =>
    rcases h with ⟨vs, h, r⟩ | ⟨vs, h, r⟩
    · exact .inl ⟨vs, by rw [e]; exact h, r.mono k q⟩
    · exact .inr ⟨vs, by rw [e]; exact h, r.mono k q⟩
  | ins c ds => obtain ⟨dx, fs, vs, h, a, b, r⟩ := h; exact ⟨dx, fs, vs, by rw [e]; exact h, a, b, r.mono k q⟩
  | _ => exact h.elim
/-- locked, it is a tree -/
theorem OwnAt.lock {T : Tab} {io : List Addr} {H H' : Hp} {p : Addr} {d : D} {u : HO} {od : Obj} (k : Keep H H') (h : OwnAt T io H p d) (e : H p = some u) (e' : H' p = some (.frz od u)) : Rep T io H' (.ref p) d := by
  cases d with
  | lst ds => obtain ⟨vs, h, r⟩ := h; rw [e] at h; cases h; exact .lst (.inl ⟨od, e'⟩) (r.mono k (List.prefix_refl _))
  | dct ds =>
    rcases h with ⟨vs, h, r⟩ | ⟨vs, h, r⟩
    · rw [e] at h; cases h; exact .dct e' (r.mono k (List.prefix_refl _))
    · rw [e] at h; cases h; exact .dcT e' (r.mono k (List.prefix_refl _))
  | ins c ds => obtain ⟨dx, fs, vs, h, a, b, r⟩ := h; rw [e] at h; cases h; exact .ins e' a b (r.mono k (List.prefix_refl _))
  | _ => exact h.elim
/-- the part of the state beside the frame -/
structure RG (T : Tab) (S : Sx) (H : Hp) : Prop where
  same : ∀ q o, S.H0 q = some o → q ∉ S.i0 → H q = some o
  pre : S.i0 <+: S.io
  new : ∀ p ∈ S.io, p ∈ S.i0 ∨ S.H0 p = none
  own : ∀ p, some p ∈ S.ps → S.H0 p = none
  len : S.io.length = S.mu.length
  cell : ∀ (k : Nat) (p : Addr) (c : D), S.io[k]? = some p → S.mu[k]? = some c → OwnAt T S.io H p c
  nd : S.io.Nodup
  apart : ∀ p, some p ∈ S.ps → p ∉ S.io
  psnd : ∀ (i j : Nat) (p : Addr), S.ps[i]? = some (some p) → S.ps[j]? = some (some p) → i = j
def SlotOk (T : Tab) (S : Sx) (H : Hp) (v : Option V) (p : Option Addr) : Slot → Prop
  | .no => p = none
  | .val d => p = none ∧ ∃ x, v = some x ∧ Rep T S.io H x d
  | .own d => ∃ a, v = some (.ref a) ∧ p = some a ∧ OwnAt T S.io H a d
structure RS (T : Tab) (S : Sx) (t : Fr) (σ : St) (H : Hp) : Prop where
  g : RG T S H
  l1 : t.length = σ.length
  l2 : S.ps.length = σ.length
  sl : ∀ (i : Nat) (s : Slot) (v : Option V) (p : Option Addr), t[i]? = some s → σ[i]? = some v → S.ps[i]? = some p → SlotOk T S H v p s
/-- a step that leaves the frame as it is -/
structure Nxt (S : Sx) (H : Hp) (S' : Sx) (H' : Hp) : Prop where
  h0 : S'.H0 = S.H0
  i0 : S'.i0 = S.i0
  io : S.io <+: S'.io
  ps : S'.ps = S.ps
  kp : Keep H H'
theorem Nxt.refl (S : Sx) (H : Hp) : Nxt S H S H := ⟨rfl, rfl, List.prefix_refl _, rfl, Keep.refl _⟩
theorem Nxt.trans {S S1 S2 : Sx} {H H1 H2 : Hp} (a : Nxt S H S1 H1) (b : Nxt S1 H1 S2 H2) : Nxt S H S2 H2 :=
  ⟨b.h0.trans a.h0, b.i0.trans a.i0, a.io.trans b.io, b.ps.trans a.ps, a.kp.trans b.kp⟩
/-- a step that may change the frame -/
structure NxtS (S : Sx) (H : Hp) (S' : Sx) (H' : Hp) : Prop where
  h0 : S'.H0 = S.H0
  i0 : S'.i0 = S.i0
  io : S.io <+: S'.io
  kp : Keep H H'
theorem NxtS.refl (S : Sx) (H : Hp) : NxtS S H S H := ⟨rfl, rfl, List.prefix_refl _, Keep.refl _⟩
theorem NxtS.trans {S S1 S2 : Sx} {H H1 H2 : Hp} (a : NxtS S H S1 H1) (b : NxtS S1 H1 S2 H2) : NxtS S H S2 H2 := ⟨b.h0.trans a.h0, b.i0.trans a.i0, a.io.trans b.io, a.kp.trans b.kp⟩
theorem Nxt.s {S S' : Sx} {H H' : Hp} (a : Nxt S H S' H') : NxtS S H S' H' := ⟨a.h0, a.i0, a.io, a.kp⟩
/-- new things alone -/
theorem RS.grow {T : Tab} {S : Sx} {t : Fr} {σ : St} {H H' : Hp} (r : RS T S t σ H) (h : ∀ q o, H q = some o → H' q = some o) : RS T S t σ H' := by
  have k : Keep H H' := ⟨fun b xs e => h _ _ e, fun b o u e => h _ _ e⟩
  have ow : ∀ {p d}, OwnAt T S.io H p d → OwnAt T S.io H' p d := fun {p d} x => by
    obtain ⟨u, e, _⟩ := x.mut
    exact x.mono k (List.prefix_refl _) (by rw [e]; exact h _ _ e)
  refine ⟨⟨fun q o e n => h _ _ (r.g.same q o e n), r.g.pre, r.g.new, r.g.own, r.g.len, fun k p c e1 e2 => ow (r.g.cell k p c e1 e2), r.g.nd, r.g.apart, r.g.psnd⟩, r.l1, r.l2, fun i s v p e1 e2 e3 => ?_⟩
  have x := r.sl i s v p e1 e2 e3
  cases s with
  | no => exact x
  | val d => obtain ⟨a, y, b, c⟩ := x; exact ⟨a, y, b, c.mono k (List.prefix_refl _)⟩
  | own d => obtain ⟨a, b, c, d⟩ := x; exact ⟨a, b, c, ow d⟩
theorem grow_upd {H : Hp} {p : Addr} {o : HO} (h : H p = none) : ∀ q u, H q = some u → upd H p o q = some u := fun q u e => by
  rw [upd_ne (ne_of_none e h)]; exact e
/-- kinds of an expression's value: t a tree, v a tree or an own thing looked at, f a tree or a thing newly made, n a thing newly made or no thing at all -/
inductive Kd where | t | v | f | n
def RepK (T : Tab) (κ : Kd) (S : Sx) (t : Fr) (H : Hp) (x : V) (d : D) : Prop := match κ with
  | .t => Rep T S.io H x d
  | .v => Rep T S.io H x d ∨ ∃ (i : Nat) (p : Addr), x = V.ref p ∧ S.ps[i]? = some (some p) ∧ t[i]? = some (Slot.own d) ∧ Thing d
  | .f => Rep T S.io H x d ∨ ∃ p, x = .ref p ∧ OwnAt T S.io H p d ∧ S.H0 p = none ∧ p ∉ S.io ∧ some p ∉ S.ps
  | .n => (Rep T S.io H x d ∧ ¬ Thing d) ∨ ∃ p, x = .ref p ∧ OwnAt T S.io H p d ∧ S.H0 p = none ∧ p ∉ S.io ∧ some p ∉ S.ps
/-- an exception's own dict -/
def ExcAt (T : Tab) (io : List Addr) (H : Hp) (c : Nat) (dx : Option Addr) (fs : List D) : Prop :=
  ∃ a vs, dx = some a ∧ H a = some (.xd ((T.at c).zip vs)) ∧ vs.length = (T.at c).length ∧ Reps T io H vs fs
abbrev wE (X : Cx) (e : Expr) : TE := fun σ H Q => ∀ (pins : List (Addr × Obj)) (s : Shared), Inv X pins σ H s → wpAny (model X.prog X.w) X.A (eval e X.env) (EP X pins σ Q) X.xe s
abbrev wT (X : Cx) (e : Expr) : L2.TT := fun σ H Q => ∀ (pins : List (Addr × Obj)) (s : Shared), Inv X pins σ H s → wpAny (model X.prog X.w) X.A (isTrue e X.env (eval e X.env)) (TP X pins σ Q) X.xe s
abbrev wS (X : Cx) (st : Stmt) : TS := fun D σ H => ∀ (pins : List (Addr × Obj)) (s : Shared), Inv X pins σ H s → wpAny (model X.prog X.w) X.A (exec st X.env) (SP X pins D) X.xe s
abbrev wSs (X : Cx) (st : List Stmt) : TS := fun D σ H => ∀ (pins : List (Addr × Obj)) (s : Shared), Inv X pins σ H s → wpAny (model X.prog X.w) X.A (execs st X.env) (SP X pins D) X.xe s
theorem wE_pe (X : Cx) (e : Expr) : PE X e (wE X e) := ⟨fun pins s _ _ _ I h => h pins s I⟩
theorem wT_pt (X : Cx) (e : Expr) : PT X e (wT X e) := ⟨fun pins s _ _ _ I h => h pins s I⟩
theorem wS_ps (X : Cx) (e : Stmt) : PS X e (wS X e) := ⟨fun pins s _ _ _ I h => h pins s I⟩
theorem wSs_pss (X : Cx) (e : List Stmt) : PSs X e (wSs X e) := ⟨fun pins s _ _ _ I h => h pins s I⟩
theorem PE.w {X : Cx} {e : Expr} {t : TE} (p : PE X e t) {σ : St} {H : Hp} {Q : VK} (h : t σ H Q) : wE X e σ H Q := fun pins s I => p.run pins s σ H Q I h
theorem PT.w {X : Cx} {e : Expr} {t : L2.TT} (p : PT X e t) {σ : St} {H : Hp} {Q : Bool → Hp → Prop} (h : t σ H Q) : wT X e σ H Q := fun pins s I => p.run pins s σ H Q I h
theorem PS.w {X : Cx} {e : Stmt} {t : TS} (p : PS X e t) {σ : St} {H : Hp} {Q : Ends} (h : t Q σ H) : wS X e Q σ H := fun pins s I => p.run pins s σ H Q I h
theorem PSs.w {X : Cx} {e : List Stmt} {t : TS} (p : PSs X e t) {σ : St} {H : Hp} {Q : Ends} (h : t Q σ H) : wSs X e Q σ H := fun pins s I => p.run pins s σ H Q I h
theorem wE_mono {X : Cx} {e : Expr} {σ : St} {H : Hp} {Q Q' : VK} (h : wE X e σ H Q) (q : ∀ v H', Q v H' → Q' v H') : wE X e σ H Q' := fun pins s I =>
  L2.thn (h pins s I) fun u s' ⟨v, H', I', r, z⟩ => ⟨v, H', I', r, q v H' z⟩
/-- what comes out is locked, where that is wanted -/
theorem wE_lock {X : Cx} {e : Expr} {σ : St} {H : Hp} {Q : VK} (h : wE X e σ H fun v H' => Q v H' ∨ ∃ p u, H' p = some u ∧ Mut (some u) ∧ ∀ od, Q v (upd H' p (.frz od u))) : wE X e σ H Q := fun pins s I =>
  L2.thn (h pins s I) fun u s' ⟨v, H', I', r, z⟩ => by
    rcases z with z | ⟨p, o, e, m, z⟩
    · exact ⟨v, H', I', r, z⟩
    · obtain ⟨od, J⟩ := I'.lock e m
      exact ⟨v, _, J, r, z od⟩
/-! ### the judgements -/
def EPost (X : Cx) (T : Tab) (κ : Kd) (W : WX) (S : Sx) (t : Fr) (σ : St) (H : Hp) (Q : VK) : Out D → Prop
  | .ok d m => ∀ v H' S', Nxt S H S' H' → S'.mu = m → RS T S' t σ H' → RepK T κ S' t H' v d → Q v H'
  | .exc c fs m => ∀ dx H' S', Nxt S H S' H' → S'.mu = m → RS T S' t σ H' → ExcAt T S'.io H' c dx fs → W (.ref (T.ad c)) dx σ H'
  | .bad => False
/-- under X the expression e is g -/
def Ev (X : Cx) (T : Tab) (κ : Kd) (e : Expr) (g : GE) : Prop :=
  ∀ (W : WX), Takes X W → ∀ (S : Sx) (t : Fr) (σ : St) (H : Hp) (Q : VK), RS T S t σ H → EPost X T κ W S t σ H Q (g t S.mu) → wE X e σ H Q
def BPost (X : Cx) (T : Tab) (W : WX) (S : Sx) (t : Fr) (σ : St) (H : Hp) (Q : Bool → Hp → Prop) : Out Bool → Prop
  | .ok d m => ∀ H' S', Nxt S H S' H' → S'.mu = m → RS T S' t σ H' → Q d H'
  | .exc c fs m => ∀ dx H' S', Nxt S H S' H' → S'.mu = m → RS T S' t σ H' → ExcAt T S'.io H' c dx fs → W (.ref (T.ad c)) dx σ H'
  | .bad => False
def Et (X : Cx) (T : Tab) (e : Expr) (g : GB) : Prop :=
  ∀ (W : WX), Takes X W → ∀ (S : Sx) (t : Fr) (σ : St) (H : Hp) (Q : Bool → Hp → Prop), RS T S t σ H → BPost X T W S t σ H Q (g t S.mu) → wT X e σ H Q
def SPost (X : Cx) (T : Tab) (W : WX) (S : Sx) (H : Hp) (E : Ends) : SOut → Prop
  | .next t m => ∀ S' σ' H', NxtS S H S' H' → S'.mu = m → RS T S' t σ' H' → E.nx σ' H'
  | .ret fr d m => ∀ v S' H', NxtS S H S' H' → S'.mu = m → RG T S' H' → (if fr = true then RepK T .n S' [] H' v d else Rep T S'.io H' v d) → E.rt v H'
  | .exc c fs t m => ∀ dx S' σ' H', NxtS S H S' H' → S'.mu = m → RS T S' t σ' H' → ExcAt T S'.io H' c dx fs → W (.ref (T.ad c)) dx σ' H'
  | .brk t m => ∀ S' σ' H', NxtS S H S' H' → S'.mu = m → RS T S' t σ' H' → E.bk σ' H'
  | .cont t m => ∀ S' σ' H', NxtS S H S' H' → S'.mu = m → RS T S' t σ' H' → E.ct σ' H'
  | .bad => False
def Es (X : Cx) (T : Tab) (st : Stmt) (g : GS) : Prop :=
  ∀ (W : WX), Takes X W → ∀ (S : Sx) (t : Fr) (σ : St) (H : Hp) (E : Ends), RS T S t σ H → SPost X T W S H E (g t S.mu) → wS X st E σ H
def Ess (X : Cx) (T : Tab) (st : List Stmt) (g : GS) : Prop :=
  ∀ (W : WX), Takes X W → ∀ (S : Sx) (t : Fr) (σ : St) (H : Hp) (E : Ends), RS T S t σ H → SPost X T W S H E (g t S.mu) → wSs X st E σ H
end TL
set_option Elab.async false
set_option linter.all false
set_option maxRecDepth 100000
set_option maxHeartbeats 2000000
/-! TLc: the structural rules: names, constants, operators, tests, argument lists, statements. -/
namespace TL
open PySem PySem.Spec
open PyProof.Rows hiding St
open L2 (V HO Hp Cx Inv VK TE TS Ends SqL SqT upd upd_same upd_ne ne_of ne_of_none Rd Mut EP SP PE PS PSs PT TP WX Takes RelV Vals Key kV Vis Loc Gl)
section
variable {X : Cx} {T : Tab} {κ κ1 κ2 : Kd} {W : WX} {S S' : Sx} {t : Fr} {σ : L2.St} {H H' : Hp} {Q Q1 : VK}
theorem EPost.shift (nx : Nxt S H S' H') {o : Out D} (h : EPost X T κ W S t σ H Q o) : EPost X T κ W S' t σ H' Q o := by
  cases o with
  | ok d m => exact fun v H2 S2 n2 => h v H2 S2 (nx.trans n2)
  | exc c fs m => exact fun dx H2 S2 n2 => h dx H2 S2 (nx.trans n2)
  | bad => exact h
theorem BPost.shift {Q : Bool → Hp → Prop} (nx : Nxt S H S' H') {o : Out Bool} (h : BPost X T W S t σ H Q o) : BPost X T W S' t σ H' Q o := by
  cases o with
  | ok d m => exact fun H2 S2 n2 => h H2 S2 (nx.trans n2)
  | exc c fs m => exact fun dx H2 S2 n2 => h dx H2 S2 (nx.trans n2)
  | bad => exact h
theorem SPost.shift {E : Ends} (nx : NxtS S H S' H') {o : SOut} (h : SPost X T W S H E o) : SPost X T W S' H' E o := by
  cases o with
  | next t m => exact fun S2 σ2 H2 n2 => h S2 σ2 H2 (nx.trans n2)
  | ret f d m => exact fun v S2 H2 n2 => h v S2 H2 (nx.trans n2)
  | exc c fs t m => exact fun dx S2 σ2 H2 n2 => h dx S2 σ2 H2 (nx.trans n2)
  | brk t m => exact fun S2 σ2 H2 n2 => h S2 σ2 H2 (nx.trans n2)
  | cont t m => exact fun S2 σ2 H2 n2 => h S2 σ2 H2 (nx.trans n2)
  | bad => exact h
/-- an expression in an expression -/
theorem EPost.bind {o : Out D} {f : D → Store → Out D} (h : EPost X T κ W S t σ H Q (o.bind f))
    (k : ∀ d m v H' S', Nxt S H S' H' → S'.mu = m → RS T S' t σ H' → RepK T κ1 S' t H' v d → EPost X T κ W S' t σ H' Q (f d m) → Q1 v H') : EPost X T κ1 W S t σ H Q1 o := by
  cases o with
  | ok d m => exact fun v H' S' nx hm rs rep => k d m v H' S' nx hm rs rep (EPost.shift nx h)
  | exc c fs m => exact h
  | bad => exact h
theorem EPost.bindB {o : Out Bool} {f : Bool → Store → Out D} {Q1 : Bool → Hp → Prop} (h : EPost X T κ W S t σ H Q (o.bind f))
    (k : ∀ d m H' S', Nxt S H S' H' → S'.mu = m → RS T S' t σ H' → EPost X T κ W S' t σ H' Q (f d m) → Q1 d H') : BPost X T W S t σ H Q1 o := by
  cases o with
  | ok d m => exact fun H' S' nx hm rs => k d m H' S' nx hm rs (EPost.shift nx h)
  | exc c fs m => exact h
  | bad => exact h
theorem BPost.bind {o : Out D} {f : D → Store → Out Bool} {Q : Bool → Hp → Prop} (h : BPost X T W S t σ H Q (o.bind f))
    (k : ∀ d m v H' S', Nxt S H S' H' → S'.mu = m → RS T S' t σ H' → RepK T κ1 S' t H' v d → BPost X T W S' t σ H' Q (f d m) → Q1 v H') : EPost X T κ1 W S t σ H Q1 o := by
  cases o with
  | ok d m => exact fun v H' S' nx hm rs rep => k d m v H' S' nx hm rs rep (BPost.shift nx h)
  | exc c fs m => exact h
  | bad => exact h
theorem BPost.bindB {o : Out Bool} {f : Bool → Store → Out Bool} {Q Q1 : Bool → Hp → Prop} (h : BPost X T W S t σ H Q (o.bind f))
    (k : ∀ d m H' S', Nxt S H S' H' → S'.mu = m → RS T S' t σ H' → BPost X T W S' t σ H' Q (f d m) → Q1 d H') : BPost X T W S t σ H Q1 o := by
  cases o with
  | ok d m => exact fun H' S' nx hm rs => k d m H' S' nx hm rs (BPost.shift nx h)
  | exc c fs m => exact h
  | bad => exact h
theorem SPost.bind {o : Out D} {f : D → Store → SOut} {E : Ends} (h : SPost X T W S H E (ofE o t f)) 
    (k : ∀ d m v H' S', Nxt S H S' H' → S'.mu = m → RS T S' t σ H' → RepK T κ1 S' t H' v d → SPost X T W S' H' E (f d m) → Q1 v H') : EPost X T κ1 W S t σ H Q1 o := by
  cases o with
  | ok d m => exact fun v H' S' nx hm rs rep => k d m v H' S' nx hm rs rep (SPost.shift nx.s h)
  | exc c fs m => exact fun dx H' S' nx hm rs x => h dx S' σ H' nx.s hm rs x
  | bad => exact h
theorem SPost.bindB {o : Out Bool} {f : Bool → Store → SOut} {E : Ends} {Q1 : Bool → Hp → Prop} (h : SPost X T W S H E (ofB o t f)) 
    (k : ∀ d m H' S', Nxt S H S' H' → S'.mu = m → RS T S' t σ H' → SPost X T W S' H' E (f d m) → Q1 d H') : BPost X T W S t σ H Q1 o := by
  cases o with
  | ok d m => exact fun H' S' nx hm rs => k d m H' S' nx hm rs (SPost.shift nx.s h)
  | exc c fs m => exact fun dx H' S' nx hm rs x => h dx S' σ H' nx.s hm rs x
  | bad => exact h
/-- a thing that no one names is changed -/
theorem RS.change {p : Addr} {o : HO} (r : RS T S t σ H) (k : Keep H (upd H p o)) (h0 : S.H0 p = none) (hi : p ∉ S.io) (hp : some p ∉ S.ps) : RS T S t σ (upd H p o) := by
  have ow : ∀ {a d}, a ≠ p → OwnAt T S.io H a d → OwnAt T S.io (upd H p o) a d := fun {a d} ne x => x.mono k (List.prefix_refl _) (upd_ne ne)
  refine ⟨⟨fun q u e n => by rw [upd_ne (ne_of_none e h0)]; exact r.g.same q u e n, r.g.pre, r.g.new, r.g.own, r.g.len, fun j a c e1 e2 => ow (fun z => hi (z ▸ List.mem_of_getElem? e1)) (r.g.cell j a c e1 e2), r.g.nd, r.g.apart, r.g.psnd⟩, r.l1, r.l2, fun i s v a e1 e2 e3 => ?_⟩
  have x := r.sl i s v a e1 e2 e3
  cases s with
  | no => exact x
  | val d => obtain ⟨a, y, b, c⟩ := x; exact ⟨a, y, b, c.mono k (List.prefix_refl _)⟩
  | own d =>
    obtain ⟨b, e, f, x⟩ := x
    refine ⟨b, e, f, ow (fun z => hp ?_) x⟩
    rw [← z, ← f]
    exact List.mem_of_getElem? e3
theorem Ev.tv {e : Expr} {g : GE} (h : Ev X T .t e g) : Ev X T .v e g := fun W tk S t σ H Q r p => h W tk S t σ H Q r (by
  cases q : g t S.mu with
  | ok d m => rw [q] at p; exact fun v H' S' nx hm rs rep => p v H' S' nx hm rs (.inl rep)
  | exc c fs m => rw [q] at p; exact p
  | bad => rw [q] at p; exact p)
theorem Ev.tf {e : Expr} {g : GE} (h : Ev X T .t e g) : Ev X T .f e g := fun W tk S t σ H Q r p => h W tk S t σ H Q r (by
  cases q : g t S.mu with
  | ok d m => rw [q] at p; exact fun v H' S' nx hm rs rep => p v H' S' nx hm rs (.inl rep)
  | exc c fs m => rw [q] at p; exact p
  | bad => rw [q] at p; exact p)
theorem Ev.ft {e : Expr} {g : GE} (h : Ev X T .f e g) : Ev X T .t e g := fun W tk S t σ H Q r p => wE_lock (h W tk S t σ H _ r (by
  cases q : g t S.mu with
  | ok d m =>
    rw [q] at p
    intro v H' S' nx hm rs rep
    rcases rep with rep | ⟨a, rfl, ow, h0, hi, hp⟩
    · exact .inl (p v H' S' nx hm rs rep)
    · obtain ⟨u, e, mu⟩ := ow.mut
      refine .inr ⟨a, u, e, mu, fun od => ?_⟩
      have k : Keep H' (upd H' a (.frz od u)) := Keep.upd (.inr (by rw [e]; exact mu))
      exact p _ _ S' (nx.trans ⟨rfl, rfl, List.prefix_refl _, rfl, k⟩) hm (rs.change k h0 hi hp) (ow.lock k e upd_same)
  | exc c fs m => rw [q] at p; exact p
  | bad => rw [q] at p; exact p))
theorem RepK.nf {v : V} {d : D} (h : RepK T .n S t H v d) : RepK T .f S t H v d := by
  rcases h with h | h
  · exact .inl h.1
  · exact .inr h
theorem Ev.nf {e : Expr} {g : GE} (h : Ev X T .n e g) : Ev X T .f e g := fun W tk S t σ H Q r p => h W tk S t σ H Q r (by
  cases q : g t S.mu with
  | ok d m => rw [q] at p; exact fun v H' S' nx hm rs rep => p v H' S' nx hm rs rep.nf
  | exc c fs m => rw [q] at p; exact p
  | bad => rw [q] at p; exact p)
theorem Ev.nt {e : Expr} {g : GE} (h : Ev X T .n e g) : Ev X T .t e g := h.nf.ft
theorem Ev.nv {e : Expr} {g : GE} (h : Ev X T .n e g) : Ev X T .v e g := h.nf.ft.tv
theorem Ev.fv {e : Expr} {g : GE} (h : Ev X T .f e g) : Ev X T .v e g := h.ft.tv
/-! ### a tree read off -/
theorem rep_int {io : List Addr} {v : V} {i : Int} (h : Rep T io H v (.int i)) : v = .int i := by cases h; rfl
theorem rep_bl {io : List Addr} {v : V} {i : Bool} (h : Rep T io H v (.bl i)) : v = .bl i := by cases h; rfl
theorem rep_non {io : List Addr} {v : V} (h : Rep T io H v .non) : v = .non := by cases h; rfl
/-- a text of codes -/
def sT (x : Tx) : Str := ⟨x.toArray⟩
theorem sT_tl (x : Tx) : (sT x).cps.toList = x := by simp [sT]
theorem tl_sT (x : Str) : sT x.cps.toList = x := by
  obtain ⟨a⟩ := x
  simp [sT]
theorem sT_len (x : Tx) : (sT x).length = x.length := by simp [sT, Str.length]
theorem rep_str {io : List Addr} {v : V} {x : Tx} (h : Rep T io H v (.str x)) : v = .str (sT x) := by
  cases h with
  | str y => rw [tl_sT]
theorem Rep.strS {io : List Addr} (x : Tx) : Rep T io H (.str (sT x)) (.str x) := by
  have h := Rep.str (T := T) (io := io) (H := H) (sT x)
  rw [sT_tl] at h
  exact h
theorem RepK.tree {v : V} {d : D} (h : RepK T κ S t H v d) (nt : ¬ Thing d) : Rep T S.io H v d := by
  cases κ with
  | t => exact h
  | v =>
    rcases h with h | ⟨j, p, rfl, h, e, th⟩
    · exact h
    · exact absurd th nt
  | f =>
    rcases h with h | ⟨p, rfl, h, _⟩
    · exact h
    · exact absurd h.thing nt
  | n =>
    rcases h with h | ⟨p, rfl, h, _⟩
    · exact h.1
    · exact absurd h.thing nt
theorem RepK.int {v : V} {i : Int} (h : RepK T κ S t H v (.int i)) : v = .int i := rep_int (h.tree fun z => z)
theorem RepK.bl {v : V} {i : Bool} (h : RepK T κ S t H v (.bl i)) : v = .bl i := rep_bl (h.tree fun z => z)
theorem RepK.str {v : V} {i : Tx} (h : RepK T κ S t H v (.str i)) : v = .str (sT i) := rep_str (h.tree fun z => z)
theorem RepK.non {v : V} (h : RepK T κ S t H v .non) : v = .non := rep_non (h.tree fun z => z)
/-- any kind from a tree -/
theorem Rep.k {v : V} {d : D} (h : Rep T S.io H v d) (nt : ¬ Thing d := by exact fun z => z) : RepK T κ S t H v d := by
  cases κ with
  | t => exact h
  | v => exact .inl h
  | f => exact .inl h
  | n => exact .inl ⟨h, nt⟩
theorem RepK.keep {v : V} {d : D} (h : RepK T .v S t H v d) (nx : Nxt S H S' H') : RepK T .v S' t H' v d := by
  rcases h with h | ⟨j, p, rfl, h, e, th⟩
  · exact .inl (h.mono nx.kp nx.io)
  · exact .inr ⟨j, p, rfl, by rw [nx.ps]; exact h, e, th⟩
/-! ### names, constants -/
theorem ev_t {e : Expr} {g : GE} {te : TE} {d : Fr → Option D} (p : PE X e te) (hg : ∀ t m, g t m = lift (d t) m)
    (h : ∀ (S : Sx) (t : Fr) (σ : L2.St) (H : Hp) (Q : VK) (a : D), RS T S t σ H → d t = some a → (∀ v, RepK T κ S t H v a → Q v H) → te σ H Q) : Ev X T κ e g := fun W tk S t σ H Q r q => by
  rw [hg] at q
  cases e : d t with
  | none => rw [e] at q; exact q.elim
  | some a =>
    rw [e] at q
    exact PE.w p (h S t σ H Q a r e fun v rep => q v H S (Nxt.refl S H) rfl r rep)
theorem Ev.var {i : Nat} {x : Str} {pos : Pos} (hN : X.N[i]? = some x) (hv : Vis X.env.scope x) (hd : (x == ("__debug__" : Str)) = false := by decide) (hcd : (x == ("__classdict__" : Str)) = false := by decide) :
    Ev X T .t (.Name x pos) (gVar i) := by
  refine ev_t (L2.pe_var (i := i) hN hv hd hcd) (fun t m => rfl) fun S t σ H Q a r e k => ?_
  cases h : t[i]? with
  | none => rw [h] at e; cases e
  | some s =>
    have hi : i < σ.length := by rw [← r.l1]; exact (List.getElem?_eq_some_iff.mp h).1
    have hp : i < S.ps.length := by rw [r.l2]; exact hi
    have z := r.sl i s σ[i] S.ps[i] h (List.getElem?_eq_getElem hi) (List.getElem?_eq_getElem hp)
    rw [h] at e
    cases s with
    | val d =>
      cases e
      obtain ⟨_, y, e1, rep⟩ := z
      exact ⟨y, by rw [List.getElem?_eq_getElem hi, e1], k y rep⟩
    | _ => cases e
theorem Ev.see {i : Nat} {x : Str} {pos : Pos} (hN : X.N[i]? = some x) (hv : Vis X.env.scope x) (hd : (x == ("__debug__" : Str)) = false := by decide) (hcd : (x == ("__classdict__" : Str)) = false := by decide) :
    Ev X T .v (.Name x pos) (gSee i) := by
  refine ev_t (L2.pe_var (i := i) hN hv hd hcd) (fun t m => rfl) fun S t σ H Q a r e k => ?_
  cases h : t[i]? with
  | none => rw [h] at e; cases e
  | some s =>
    have hi : i < σ.length := by rw [← r.l1]; exact (List.getElem?_eq_some_iff.mp h).1
    have hp : i < S.ps.length := by rw [r.l2]; exact hi
    have z := r.sl i s σ[i] S.ps[i] h (List.getElem?_eq_getElem hi) (List.getElem?_eq_getElem hp)
    rw [h] at e
    cases s with
    | val d =>
      cases e
      obtain ⟨_, y, e1, rep⟩ := z
      exact ⟨y, by rw [List.getElem?_eq_getElem hi, e1], k y (.inl rep)⟩
    | own d =>
      cases e
      obtain ⟨p, e1, e2, ow⟩ := z
      exact ⟨.ref p, by rw [List.getElem?_eq_getElem hi, e1], k _ (.inr ⟨i, p, rfl, by rw [List.getElem?_eq_getElem hp, e2], h, ow.thing⟩)⟩
    | _ => cases e
theorem Ev.cint {i : Int} {j pos} : Ev X T κ (.Constant (.int i) j pos) (gC (.int i)) := ev_t (d := fun _ => some _) L2.pe_int (fun _ _ => rfl) fun S t σ H Q a r e k => by cases e; exact k _ (Rep.int i).k
theorem Ev.cbl {i : Bool} {j pos} : Ev X T κ (.Constant (.bool i) j pos) (gC (.bl i)) := ev_t (d := fun _ => some _) L2.pe_bl (fun _ _ => rfl) fun S t σ H Q a r e k => by cases e; exact k _ (Rep.bl i).k
theorem Ev.cnon {j pos} : Ev X T κ (.Constant .none j pos) (gC .non) := ev_t (d := fun _ => some _) L2.pe_non (fun _ _ => rfl) fun S t σ H Q a r e k => by cases e; exact k _ Rep.non.k
theorem Ev.cstr {x : Tx} {j pos} {y : Str} (h : y = sT x := by rfl) : Ev X T κ (.Constant (.str y) j pos) (gC (.str x)) := by
  subst h
  exact ev_t (d := fun _ => some _) L2.pe_str (fun _ _ => rfl) fun S t σ H Q a r e k => by cases e; exact k _ (Rep.strS x).k
/-! ### operators -/
/-- F on values is f on trees -/
def Op2 (X : Cx) (T : Tab) (κ : Kd) (F : Value → Value → Sem Value) (f : D → D → Option D) : Prop :=
  ∀ (S : Sx) (t : Fr) (σ : L2.St) (H : Hp) (x y : V) (a b d : D) (Q : VK), RS T S t σ H → RepK T .v S t H x a → RepK T .v S t H y b → f a b = some d →
    (∀ v H' S', Nxt S H S' H' → S'.mu = S.mu → RS T S' t σ H' → RepK T κ S' t H' v d → Q v H') →
    ∀ (pins : List (Addr × Obj)) (s : Shared) (u w : Value), Inv X pins σ H s → RelV x u → RelV y w → wpAny (model X.prog X.w) X.A (F u w) (EP X pins σ Q) X.xe s
theorem Op2.of {F : Value → Value → Sem Value} {f : D → D → Option D} {r : L2.R2} (ho : L2.OpR X F r)
    (h : ∀ (S : Sx) (t : Fr) (σ : L2.St) (H : Hp) (x y : V) (a b d : D) (Q : VK), RS T S t σ H → RepK T .v S t H x a → RepK T .v S t H y b → f a b = some d →
      (∀ v H' S', Nxt S H S' H' → S'.mu = S.mu → RS T S' t σ H' → RepK T κ S' t H' v d → Q v H') → r x y H Q) : Op2 X T κ F f :=
  fun S t σ H x y a b d Q rs ra rb e k pins s u w I ru rw => ho pins s σ H x y u w Q I ru rw (h S t σ H x y a b d Q rs ra rb e k)
theorem op2_bind {a b : Expr} {ga gb : GE} {f : D → D → Option D} {F : Value → Value → Sem Value} (ho : Op2 X T κ F f) (ha : Ev X T .v a ga) (hb : Ev X T .v b gb) (tk : Takes X W) (r : RS T S t σ H)
    (p : EPost X T κ W S t σ H Q (g2 f ga gb t S.mu)) {pins : List (Addr × Obj)} {s : Shared} (I : Inv X pins σ H s) :
    wpAny (model X.prog X.w) X.A (eval a X.env) (fun v s₁ => wpAny (model X.prog X.w) X.A (eval b X.env) (fun u s₂ => wpAny (model X.prog X.w) X.A (F v u) (EP X pins σ Q) X.xe s₂) X.xe s₁) X.xe s := by
  refine L2.binT (wE_pe X a) (wE_pe X b) I (R := fun x y H2 => ∀ (pins : List (Addr × Obj)) (s : Shared) (u w : Value), Inv X pins σ H2 s → RelV x u → RelV y w → wpAny (model X.prog X.w) X.A (F u w) (EP X pins σ Q) X.xe s)
    (ha W tk S t σ H _ r (EPost.bind (κ1 := .v) p fun d m v H1 S1 nx hm rs rep p1 => hb W tk S1 t σ H1 _ rs ?_)) fun v u s2 x y H2 I2 rx ry q => q pins s2 v u I2 rx ry
  rw [hm]
  refine EPost.bind (κ1 := .v) p1 fun e m2 u H2 S2 nx2 hm2 rs2 rep2 p2 => ?_
  cases q : f d e with
  | none => unfold lift at p2; rw [q] at p2; exact p2.elim
  | some z =>
    unfold lift at p2; rw [q] at p2
    exact ho S2 t σ H2 v u d e z Q rs2 (rep.keep nx2) rep2 q fun v' H' S' n' hm' rs' rep' => p2 v' H' S' n' (hm'.trans hm2) rs' rep'
theorem Ev.op {op : Operator} {a b : Expr} {ga gb : GE} {f : D → D → Option D} {pos : Pos} (ho : Op2 X T κ (binaryOp op) f) (ha : Ev X T .v a ga) (hb : Ev X T .v b gb) : Ev X T κ (.BinOp a op b pos) (g2 f ga gb) :=
  fun W tk S t σ H Q r p pins s I => wpAny_BinOp (op2_bind ho ha hb tk r p I)
theorem Ev.cmp {op : CmpOp} {a b : Expr} {ga gb : GE} {f : D → D → Option D} {pos : Pos} (ho : Op2 X T κ (compareOp op) f) (ha : Ev X T .v a ga) (hb : Ev X T .v b gb) (hm : behindInMarks op b = false := by rfl) : Ev X T κ (.Compare a [op] [b] pos) (g2 f ga gb) :=
  fun W tk S t σ H Q r p pins s I => wpAny_Compare1 (op2_bind ho ha hb tk r p I) hm
end
end TL
set_option Elab.async false
set_option linter.all false
set_option maxRecDepth 100000
set_option maxHeartbeats 2000000
/-! TLd: tests, argument lists, displays, built-in calls, statements. -/
namespace TL
open PySem PySem.Spec
open PyProof.Rows hiding St
open L2 (V HO Hp Cx Inv VK TE TS Ends SqL SqT upd upd_same upd_ne ne_of ne_of_none Rd Mut EP AP SP PE PA PW PT PS PSs PT TP WX Takes RelV Vals Key kV Vis Loc Gl)
section
variable {X : Cx} {T : Tab} {κ κ1 κ2 : Kd} {W : WX} {S S' : Sx} {t : Fr} {σ : L2.St} {H H' : Hp} {Q Q1 : VK} {pos : Pos}
/-! ### tests -/
abbrev wW (X : Cx) (e : Expr) : L2.TT := fun σ H Q => ∀ (whole : Sem Value) (pins : List (Addr × Obj)) (s : Shared), Inv X pins σ H s → wpAny (model X.prog X.w) X.A (isTrue e X.env whole) (TP X pins σ Q) X.xe s
theorem wW_pw (X : Cx) (e : Expr) : PW X e (wW X e) := ⟨fun wh pins s _ _ _ I h => h wh pins s I⟩
def Ew (X : Cx) (T : Tab) (e : Expr) (g : GB) : Prop :=
  ∀ (W : WX), Takes X W → ∀ (S : Sx) (t : Fr) (σ : L2.St) (H : Hp) (Q : Bool → Hp → Prop), RS T S t σ H → BPost X T W S t σ H Q (g t S.mu) → wW X e σ H Q
theorem Ew.et {e : Expr} {g : GB} (h : Ew X T e g) : Et X T e g := fun W tk S t σ H Q r p pins s I => h W tk S t σ H Q r p _ pins s I
theorem PW.w {e : Expr} {te : L2.TT} (p : PW X e te) {Q : Bool → Hp → Prop} (h : te σ H Q) : wW X e σ H Q := fun wh pins s I => p.run wh pins s σ H Q I h
theorem Et.val {e : Expr} {g : GE} (h : Ev X T κ e g) (he : ∀ whole, isTrue e X.env whole = (do let v ← whole; standAt e.pos; holding [v] (truthy v)) := by intro _; rfl) : Et X T e (tB g) := by
  intro W tk S t σ H Q r p
  refine PT.w (L2.pt_val (wE_pe X e) he) ?_
  refine h W tk S t σ H _ r (BPost.bind (κ1 := κ) p fun d m v H' S' nx hm rs rep p' => ?_)
  cases d with
  | bl b => exact ⟨b, rep.bl, p' H' S' (Nxt.refl _ _) hm rs⟩
  | _ => exact p'.elim
theorem Ew.and1 {a : Expr} {g : GB} (h : Et X T a g) : Ew X T (.BoolOp .And [a] pos) g := fun W tk S t σ H Q r p => PW.w (L2.pw_and1 (wT_pt X a)) (h W tk S t σ H Q r p)
theorem Ew.or1 {a : Expr} {g : GB} (h : Et X T a g) : Ew X T (.BoolOp .Or [a] pos) g := fun W tk S t σ H Q r p => PW.w (L2.pw_or1 (wT_pt X a)) (h W tk S t σ H Q r p)
theorem Ew.and {a b : Expr} {rest : List Expr} {ga gb : GB} (ha : Et X T a ga) (hb : Ew X T (.BoolOp .And (b :: rest) pos) gb) : Ew X T (.BoolOp .And (a :: b :: rest) pos) (tAnd ga gb) := by
  intro W tk S t σ H Q r p
  refine PW.w (L2.pw_and (wT_pt X a) (wW_pw X _)) ?_
  refine ha W tk S t σ H _ r (BPost.bindB p fun k m H' S' nx hm rs p' => ?_)
  cases k with
  | true => rw [if_pos rfl] at p' ⊢; exact hb W tk S' t σ H' Q rs (by rw [hm]; exact p')
  | false => rw [if_neg Bool.false_ne_true] at p' ⊢; exact p' H' S' (Nxt.refl _ _) hm rs
theorem Ew.or {a b : Expr} {rest : List Expr} {ga gb : GB} (ha : Et X T a ga) (hb : Ew X T (.BoolOp .Or (b :: rest) pos) gb) : Ew X T (.BoolOp .Or (a :: b :: rest) pos) (tOr ga gb) := by
  intro W tk S t σ H Q r p
  refine PW.w (L2.pw_or (wT_pt X a) (wW_pw X _)) ?_
  refine ha W tk S t σ H _ r (BPost.bindB p fun k m H' S' nx hm rs p' => ?_)
  cases k with
  | true => rw [if_pos rfl] at p' ⊢; exact p' H' S' (Nxt.refl _ _) hm rs
  | false => rw [if_neg Bool.false_ne_true] at p' ⊢; exact hb W tk S' t σ H' Q rs (by rw [hm]; exact p')
theorem Et.not {a : Expr} {ga : GB} (ha : Et X T a ga) : Et X T (.UnaryOp .Not a pos) (tNot ga) := by
  intro W tk S t σ H Q r p
  refine PT.w (L2.pt_not (wT_pt X a)) ?_
  exact ha W tk S t σ H _ r (BPost.bindB p fun k m H' S' nx hm rs p' => p' H' S' (Nxt.refl _ _) hm rs)
theorem Ev.ife {c a b : Expr} {gc : GB} {ga gb : GE} (hc : Et X T c gc) (ha : Ev X T κ a ga) (hb : Ev X T κ b gb) : Ev X T κ (.IfExp c a b pos) (gIf gc ga gb) := by
  intro W tk S t σ H Q r p
  refine PE.w (L2.pe_ifExp (wT_pt X c) (wE_pe X a) (wE_pe X b)) ?_
  refine hc W tk S t σ H _ r (EPost.bindB p fun k m H' S' nx hm rs p' => ?_)
  cases k with
  | true => rw [if_pos rfl] at p' ⊢; exact ha W tk S' t σ H' Q rs (by rw [hm]; exact p')
  | false => rw [if_neg Bool.false_ne_true] at p' ⊢; exact hb W tk S' t σ H' Q rs (by rw [hm]; exact p')
/-! and, or, not as values: all but the last a bool -/
def vAnd (a b : GE) : GE := fun t m => (a t m).bind fun x m => match x with
  | .bl true => b t m
  | .bl false => .ok (.bl false) m
  | _ => .bad
def vOr (a b : GE) : GE := fun t m => (a t m).bind fun x m => match x with
  | .bl false => b t m
  | .bl true => .ok (.bl true) m
  | _ => .bad
def dNot : D → Option D
  | .bl b => some (.bl (!b))
  | _ => none
theorem Ev.one {op : BoolOp} {a : Expr} {g : GE} (h : Ev X T κ a g) : Ev X T κ (.BoolOp op [a] pos) g := fun W tk S t σ H Q r p => PE.w (L2.pe_one (wE_pe X a)) (h W tk S t σ H Q r p)
theorem Ev.and {a b : Expr} {rest : List Expr} {ga gb : GE} (ha : Ev X T .t a ga) (hb : Ev X T .t (.BoolOp .And (b :: rest) pos) gb) : Ev X T .t (.BoolOp .And (a :: b :: rest) pos) (vAnd ga gb) := by
  intro W tk S t σ H Q r p
  refine PE.w (L2.pe_and (wE_pe X a) (wE_pe X _)) ?_
  refine ha W tk S t σ H _ r (EPost.bind p fun x m v H' S' nx hm rs rep p' => ?_)
  cases x with
  | bl k =>
    cases k with
    | true => exact ⟨true, rep.bl, by rw [if_pos rfl]; exact hb W tk S' t σ H' Q rs (by rw [hm]; exact p')⟩
    | false => exact ⟨false, rep.bl, by rw [if_neg Bool.false_ne_true]; exact p' _ H' S' (Nxt.refl _ _) hm rs (Rep.bl false)⟩
  | _ => exact p'.elim
theorem Ev.or {a b : Expr} {rest : List Expr} {ga gb : GE} (ha : Ev X T .t a ga) (hb : Ev X T .t (.BoolOp .Or (b :: rest) pos) gb) : Ev X T .t (.BoolOp .Or (a :: b :: rest) pos) (vOr ga gb) := by
  intro W tk S t σ H Q r p
  refine PE.w (L2.pe_or (wE_pe X a) (wE_pe X _)) ?_
  refine ha W tk S t σ H _ r (EPost.bind p fun x m v H' S' nx hm rs rep p' => ?_)
  cases x with
  | bl k =>
    cases k with
    | true => exact ⟨true, rep.bl, by rw [if_pos rfl]; exact p' _ H' S' (Nxt.refl _ _) hm rs (Rep.bl true)⟩
    | false => exact ⟨false, rep.bl, by rw [if_neg Bool.false_ne_true]; exact hb W tk S' t σ H' Q rs (by rw [hm]; exact p')⟩
  | _ => exact p'.elim
theorem lift_ok {o : Option D} {m : Store} {d : D} (e : o = some d) : lift o m = .ok d m := by rw [e]; rfl
theorem Ev.not {a : Expr} {ga : GE} (ha : Ev X T .t a ga) : Ev X T .t (.UnaryOp .Not a pos) (g1 dNot ga) := by
  intro W tk S t σ H Q r p
  refine PE.w (L2.pe_not (wE_pe X a)) ?_
  refine ha W tk S t σ H _ r (EPost.bind p fun x m v H' S' nx hm rs rep p' => ?_)
  cases x with
  | bl k => exact ⟨k, rep.bl, p' _ H' S' (Nxt.refl _ _) hm rs (Rep.bl _)⟩
  | _ => exact p'.elim
/-! ### argument lists -/
inductive RepL (T : Tab) (κ : Kd) (S : Sx) (t : Fr) (H : Hp) : List V → List D → Prop
  | nil : RepL T κ S t H [] []
  | cons {v : V} {vs : List V} {d : D} {ds : List D} : RepK T κ S t H v d → RepL T κ S t H vs ds → RepL T κ S t H (v :: vs) (d :: ds)
theorem RepL.s : ∀ {vs : List V} {ds : List D}, RepL T .t S t H vs ds → Reps T S.io H vs ds
  | _, _, .nil => .nil
  | _, _, .cons a b => .cons a b.s
theorem RepL.v : ∀ {vs : List V} {ds : List D}, RepL T .t S t H vs ds → RepL T .v S t H vs ds
  | _, _, .nil => .nil
  | _, _, .cons a b => .cons (.inl a) b.v
def Steady : Kd → Prop
  | .t => True
  | .v => True
  | _ => False
theorem RepK.keepS {v : V} {d : D} (hκ : Steady κ) (h : RepK T κ S t H v d) (nx : Nxt S H S' H') : RepK T κ S' t H' v d := by
  cases κ with
  | t => exact Rep.mono nx.kp nx.io h
  | v => exact RepK.keep h nx
  | f => exact hκ.elim
  | n => exact hκ.elim
abbrev wA (X : Cx) (es : List Expr) : L2.TA := fun σ H Q => ∀ (pos : Pos) (pins : List (Addr × Obj)) (s : Shared), Inv X pins σ H s → wpAny (model X.prog X.w) X.A (spliced (backTo pos (starEach es X.env))) (AP X pins σ Q) X.xe s
theorem wA_pa (X : Cx) (es : List Expr) : PA X es (wA X es) := ⟨fun pos pins s _ _ _ I h => h pos pins s I⟩
theorem PA.w {es : List Expr} {ta : L2.TA} (p : PA X es ta) {Q : List V → Hp → Prop} (h : ta σ H Q) : wA X es σ H Q := fun pos pins s I => p.run pos pins s σ H Q I h
def APost (X : Cx) (T : Tab) (κ : Kd) (W : WX) (S : Sx) (t : Fr) (σ : L2.St) (H : Hp) (Q : List V → Hp → Prop) : Out (List D) → Prop
  | .ok ds m => ∀ vs H' S', Nxt S H S' H' → S'.mu = m → RS T S' t σ H' → RepL T κ S' t H' vs ds → Q vs H'
  | .exc c fs m => ∀ dx H' S', Nxt S H S' H' → S'.mu = m → RS T S' t σ H' → ExcAt T S'.io H' c dx fs → W (.ref (T.ad c)) dx σ H'
  | .bad => False
def Ea (X : Cx) (T : Tab) (κ : Kd) (es : List Expr) (g : GA) : Prop :=
  ∀ (W : WX), Takes X W → ∀ (S : Sx) (t : Fr) (σ : L2.St) (H : Hp) (Q : List V → Hp → Prop), RS T S t σ H → APost X T κ W S t σ H Q (g t S.mu) → wA X es σ H Q
theorem APost.shift {Q : List V → Hp → Prop} (nx : Nxt S H S' H') {o : Out (List D)} (h : APost X T κ W S t σ H Q o) : APost X T κ W S' t σ H' Q o := by
  cases o with
  | ok d m => exact fun v H2 S2 n2 => h v H2 S2 (nx.trans n2)
  | exc c fs m => exact fun dx H2 S2 n2 => h dx H2 S2 (nx.trans n2)
  | bad => exact h
theorem Ea.nil : Ea X T κ [] gNil := fun W tk S t σ H Q r p => PA.w L2.pa_nil (p [] H S (Nxt.refl _ _) rfl r .nil)
theorem Ea.cons {e : Expr} {es : List Expr} {ge : GE} {gs : GA} (he : Ev X T κ e ge) (hs : Ea X T κ es gs) (hκ : Steady κ := by trivial) (hst : starEach (e :: es) X.env = (false, eval e X.env) :: starEach es X.env := by rfl) : Ea X T κ (e :: es) (gCons ge gs) := by
  intro W tk S t σ H Q r p
  refine PA.w (L2.pa_cons (wE_pe X e) (wA_pa X es) hst) ?_
  refine he W tk S t σ H _ r ?_
  have p : APost X T κ W S t σ H Q ((ge t S.mu).bind fun x m => (gs t m).bind fun xs m => .ok (x :: xs) m) := p
  cases h1 : ge t S.mu with
  | ok d m =>
    rw [h1] at p
    intro v H1 S1 nx hm rs rep
    refine hs W tk S1 t σ H1 _ rs ?_
    rw [hm]
    have p : APost X T κ W S t σ H Q ((gs t m).bind fun xs m => .ok (d :: xs) m) := p
    cases h2 : gs t m with
    | ok ds m2 =>
      rw [h2] at p
      intro vs H2 S2 nx2 hm2 rs2 rep2
      exact p (v :: vs) H2 S2 (nx.trans nx2) hm2 rs2 (.cons (rep.keepS hκ nx2) rep2)
    | exc c fs m2 =>
      rw [h2] at p
      exact fun dx H2 S2 n2 => p dx H2 S2 (nx.trans n2)
    | bad => rw [h2] at p; exact p.elim
  | exc c fs m2 => rw [h1] at p; exact p
  | bad => rw [h1] at p; exact p.elim
/-- an argument list in an expression -/
theorem EPost.bindA {o : Out (List D)} {f : List D → Store → Out D} {Q1 : List V → Hp → Prop} (h : EPost X T κ W S t σ H Q (o.bind f))
    (k : ∀ ds m vs H' S', Nxt S H S' H' → S'.mu = m → RS T S' t σ H' → RepL T κ1 S' t H' vs ds → EPost X T κ W S' t σ H' Q (f ds m) → Q1 vs H') : APost X T κ1 W S t σ H Q1 o := by
  cases o with
  | ok d m => exact fun v H' S' nx hm rs rep => k d m v H' S' nx hm rs rep (EPost.shift nx h)
  | exc c fs m => exact h
  | bad => exact h
/-! ### displays -/
theorem lim_eq : sizeLine = LIM := sizeLine_eq
def dTup (ds : List D) : Option D := if ds.length ≤ LIM then some (.tup ds) else none
def dLst (ds : List D) : Option D := if ds.length ≤ LIM then some (.lst ds) else none
theorem Ev.tup {es : List Expr} {g : GA} {x1} (h : Ea X T .t es g) : Ev X T .t (.Tuple es x1 pos) (gL dTup g) := by
  intro W tk S t σ H Q r p
  refine PE.w (L2.pe_tup (wA_pa X es)) ?_
  refine h W tk S t σ H _ r (EPost.bindA (κ1 := .t) p fun ds m vs H' S' nx hm rs rep p' => ?_)
  have e := rep.s.length
  unfold dTup at p'
  by_cases hl : ds.length ≤ LIM
  · rw [if_pos hl] at p'
    refine ⟨by rw [e, lim_eq]; exact hl, fun a hn => ?_⟩
    have kg := grow_upd (o := .tup vs) hn
    have k : Keep H' (upd H' a (.tup vs)) := Keep.upd (.inl hn)
    exact p' _ _ S' ⟨rfl, rfl, List.prefix_refl _, rfl, k⟩ hm (rs.grow kg) (Rep.tup (SqT.of upd_same) (rep.s.mono k (List.prefix_refl _)))
  · rw [if_neg hl] at p'; exact p'.elim
/-- a new place is no one's -/
theorem RS.free {a : Addr} (r : RS T S t σ H) (h : H a = none) : S.H0 a = none ∧ a ∉ S.io ∧ some a ∉ S.ps := by
  have hi : a ∉ S.io := fun hm => by
    obtain ⟨k, hk, e⟩ := List.getElem_of_mem hm
    have hk2 : k < S.mu.length := by rw [← r.g.len]; exact hk
    obtain ⟨u, e2, _⟩ := (r.g.cell k a S.mu[k] (by rw [List.getElem?_eq_getElem hk, e]) (List.getElem?_eq_getElem hk2)).mut
    rw [h] at e2; cases e2
  refine ⟨?_, hi, fun hm => ?_⟩
  · cases e : S.H0 a with
    | none => rfl
    | some o =>
      have : a ∉ S.i0 := fun z => hi (r.g.pre.subset z)
      have q := r.g.same a o e this
      rw [h] at q; cases q
  · obtain ⟨k, hk, e⟩ := List.getElem_of_mem hm
    have hk1 : k < σ.length := by rw [← r.l2]; exact hk
    have hk2 : k < t.length := by rw [r.l1]; exact hk1
    have z := r.sl k t[k] σ[k] (some a) (List.getElem?_eq_getElem hk2) (List.getElem?_eq_getElem hk1) (by rw [List.getElem?_eq_getElem hk, e])
    generalize t[k] = sl at z
    cases sl with
    | no => cases z
    | val d => cases z.1
    | own d =>
      obtain ⟨b, _, e2, ow⟩ := z
      cases e2
      obtain ⟨u, e3, _⟩ := ow.mut
      rw [h] at e3; cases e3
/-- a new thing -/
theorem RS.newly {a : Addr} {o : HO} {d : D} (r : RS T S t σ H) (h : H a = none) (ow : OwnAt T S.io (upd H a o) a d) : RS T S t σ (upd H a o) ∧ Nxt S H S (upd H a o) ∧ RepK T .n S t (upd H a o) (.ref a) d := by
  obtain ⟨h0, hi, hp⟩ := r.free h
  exact ⟨r.grow (grow_upd h), ⟨rfl, rfl, List.prefix_refl _, rfl, Keep.upd (.inl h)⟩, .inr ⟨a, rfl, ow, h0, hi, hp⟩⟩
theorem Ev.lst {es : List Expr} {g : GA} (h : Ea X T .t es g) : Ev X T .n (.List es pos) (gL dLst g) := by
  intro W tk S t σ H Q r p
  refine PE.w (L2.pe_lst (wA_pa X es)) ?_
  refine h W tk S t σ H _ r (EPost.bindA (κ1 := .t) p fun ds m vs H' S' nx hm rs rep p' => ?_)
  have e := rep.s.length
  unfold dLst at p'
  by_cases hl : ds.length ≤ LIM
  · rw [if_pos hl] at p'
    refine ⟨by rw [e, lim_eq]; exact hl, fun a hn => ?_⟩
    have k : Keep H' (upd H' a (.lst vs)) := Keep.upd (.inl hn)
    obtain ⟨rs', nx', f⟩ := rs.newly (o := .lst vs) (d := .lst ds) hn ⟨vs, upd_same, rep.s.mono k (List.prefix_refl _)⟩
    exact p' _ _ S' nx' hm rs' f
  · rw [if_neg hl] at p'; exact p'.elim
/-! ### built-ins, called -/
def FnS (X : Cx) (T : Tab) (κ : Kd) (F : Value) (f : List D → Option D) : Prop :=
  ∀ (S : Sx) (t : Fr) (σ : L2.St) (H : Hp) (xs : List V) (ds : List D) (d : D) (Q : VK), RS T S t σ H → RepL T .v S t H xs ds → f ds = some d →
    (∀ v H' S', Nxt S H S' H' → S'.mu = S.mu → RS T S' t σ H' → RepK T κ S' t H' v d → Q v H') →
    ∀ (pins : List (Addr × Obj)) (s : Shared) (us : List Value), Inv X pins σ H s → Vals xs us → wpAny (model X.prog X.w) X.A (call F us) (EP X pins σ Q) X.xe s
theorem FnS.of {F : Value} {f : List D → Option D} {r : List V → Hp → VK → Prop} (ho : L2.CallR X F r)
    (h : ∀ (S : Sx) (t : Fr) (σ : L2.St) (H : Hp) (xs : List V) (ds : List D) (d : D) (Q : VK), RS T S t σ H → RepL T .v S t H xs ds → f ds = some d →
      (∀ v H' S', Nxt S H S' H' → S'.mu = S.mu → RS T S' t σ H' → RepK T κ S' t H' v d → Q v H') → r xs H Q) : FnS X T κ F f :=
  fun S t σ H xs ds d Q rs ra e k pins s us I ru => ho pins s σ H xs us Q I ru (h S t σ H xs ds d Q rs ra e k)
theorem callB_bind {F : Value} {f : List D → Option D} {es : List Expr} {g : GA} (hf : FnS X T κ F f) (ha : Ea X T .v es g) (tk : Takes X W) (r : RS T S t σ H) (p : EPost X T κ W S t σ H Q (gL f g t S.mu))
    {pins : List (Addr × Obj)} {s : Shared} (I : Inv X pins σ H s) : wpAny (model X.prog X.w) X.A (spliced (backTo pos (starEach es X.env))) (fun us s1 => wpAny (model X.prog X.w) X.A (call F us) (EP X pins σ Q) X.xe s1) X.xe s := by
  have q : wA X es σ H (fun vs H1 => ∀ (pins : List (Addr × Obj)) (s : Shared) (us : List Value), Inv X pins σ H1 s → Vals vs us → wpAny (model X.prog X.w) X.A (call F us) (EP X pins σ Q) X.xe s) := by
    refine ha W tk S t σ H _ r (EPost.bindA (κ1 := .v) p fun ds m vs H' S' nx hm rs rep p' => ?_)
    cases e : f ds with
    | none => unfold lift at p'; rw [e] at p'; exact p'.elim
    | some d =>
      unfold lift at p'; rw [e] at p'
      exact hf S' t σ H' vs ds d Q rs rep e fun v H2 S2 n2 hm2 rs2 rep2 => p' v H2 S2 n2 (hm2.trans hm) rs2 rep2
  exact L2.thn (q pos pins s I) fun us s1 ⟨vs, H1, I1, r1, z⟩ => z pins s1 us I1 r1
/-- f(e, ..), f a built-in function -/
theorem Ev.callB {x : Str} {id : String} {p : Pos} {e : Expr} {es : List Expr} {g : GA} {f : List D → Option D} (hf : FnS X T κ (.builtin id) f) (hg : Gl X x) (hm : X.mg x = none) (hv : bootBuiltins x = some (.builtin id)) (ha : Ea X T .v (e :: es) g) (hn : x ≠ "__name__" := by decide)
    (hdb : (x == ("__debug__" : Str)) = false := by decide) (he : starEach (e :: es) X.env = (false, eval e X.env) :: starEach es X.env := by rfl) (hpl : (backTo pos (starEach es X.env)).any (·.1) = false := by rfl) :
    Ev X T κ (.Call (.Name x p) (e :: es) [] pos) (gL f g) := by
  intro W tk S t σ H Q r q pins s I
  refine wpAny_Call_Name_kw (L2.ld_blt I hg hm hv ?_ hn hdb)
  exact PyProof.Rows.callWith_builtin1 (callB_bind hf ha tk r q I) he hpl
/-- T(e, ..), T a built-in class -/
theorem Ev.callT {x : Str} {id : String} {p : Pos} {e : Expr} {es : List Expr} {g : GA} {f : List D → Option D} (hf : FnS X T κ (.type id) f) (hg : Gl X x) (hm : X.mg x = none) (hv : bootBuiltins x = some (.type id)) (ha : Ea X T .v (e :: es) g) (hn : x ≠ "__name__" := by decide)
    (hdb : (x == ("__debug__" : Str)) = false := by decide) (he : starEach (e :: es) X.env = (false, eval e X.env) :: starEach es X.env := by rfl) (hpl : (backTo pos (starEach es X.env)).any (·.1) = false := by rfl) :
    Ev X T κ (.Call (.Name x p) (e :: es) [] pos) (gL f g) := by
  intro W tk S t σ H Q r q pins s I
  refine wpAny_Call_Name_kw (L2.ld_blt I hg hm hv ?_ hn hdb)
  exact PyProof.Rows.callWith_type1 (callB_bind hf ha tk r q I) he hpl
end
end TL
set_option Elab.async false
set_option linter.all false
set_option maxRecDepth 100000
set_option maxHeartbeats 2000000
/-! TLe: calls of the text's own defs; statements; what a def promises. -/
namespace TL
open PySem PySem.Spec
open PyProof.Rows hiding St
open L2 (V HO Hp Cx Inv VK TE TS Ends SqL SqT upd upd_same upd_ne ne_of ne_of_none Rd Mut EP AP SP PE PA PW PT PS PSs PT TP WX Takes RelV Vals Key kV Vis Loc Gl FnOk Sp Binds Room XK)
section
variable {X : Cx} {T : Tab} {κ κ1 κ2 : Kd} {W : WX} {S S' : Sx} {t : Fr} {σ : L2.St} {H H' : Hp} {Q Q1 : VK} {pos : Pos}
/-! ### what a def promises -/
structure StOk (T : Tab) (io : List Addr) (mu : Store) (H : Hp) : Prop where
  len : io.length = mu.length
  cell : ∀ (k : Nat) (p : Addr) (c : D), io[k]? = some p → mu[k]? = some c → OwnAt T io H p c
  nd : io.Nodup
def FreshR (T : Tab) (io : List Addr) (H H' : Hp) (v : V) (d : D) : Prop := (Rep T io H' v d ∧ ¬ Thing d) ∨ ∃ p, v = .ref p ∧ OwnAt T io H' p d ∧ H p = none ∧ p ∉ io
def FPost (T : Tab) (io : List Addr) (H : Hp) (Q : VK) (E : XK) : Out (Bool × D) → Prop
  | .ok (fr, d) m => ∀ v H' io', io <+: io' → (∀ p ∈ io', p ∈ io ∨ H p = none) → StOk T io' m H' → (∀ q o, H q = some o → q ∉ io → H' q = some o) → (if fr = true then FreshR T io' H H' v d else Rep T io' H' v d) → Q v H'
  | .exc c fs m => ∀ dx H' io', io <+: io' → (∀ p ∈ io', p ∈ io ∨ H p = none) → StOk T io' m H' → (∀ q o, H q = some o → q ∉ io → H' q = some o) → ExcAt T io' H' c dx fs → E (.ref (T.ad c)) dx H'
  | .bad => False
/-- called with trees, the def does what f does -/
def spT (T : Tab) (n : Nat) (f : DF) : Sp := fun vs H Q E => ∃ ds io mu, vs.length = n ∧ Reps T io H vs ds ∧ StOk T io mu H ∧ FPost T io H Q E (f ds mu)
/-- a def keeps its promise, wherever no repr is under way -/
structure FnG (P : Program) (w : World) (K : PySem.W.Frag) (mg : Str → Option Value) (base : Heap) (k : Nat) (f : Addr) (fd : FuncData) (ps : List Str) (sp : Sp) : Prop where
  len : ∀ vs H Q E, sp vs H Q E → vs.length = ps.length
  run : ∀ (A : Around) (outer : List Env) (s : Shared) (H : Hp) (args : Args) (us : List Value) (vs : List V) (Q : VK) (E : XK), Room k A → A.guards = some [] → L2.Env0 P w K mg base A outer s H →
    BindsTo s fd args (ps.zip us) → Vals vs us → sp vs H Q E → codeAny (model P w) A (.call (.ref f) args) (L2.CR (L2.CX P w) outer P w H s Q E) s
theorem FnG.mono {P : Program} {w : World} {K : PySem.W.Frag} {mg : Str → Option Value} {base : Heap} {j k : Nat} {f : Addr} {fd : FuncData} {ps : List Str} {sp : Sp} (F : FnG P w K mg base j f fd ps sp) (h : j ≤ k) : FnG P w K mg base k f fd ps sp :=
  ⟨F.len, fun A outer s H args us vs Q E hr hg e b r q => F.run A outer s H args us vs Q E (hr.mono h) hg e b r q⟩
/-- it is called, from X -/
theorem FnG.go {W : WX} {k : Nat} {f : Addr} {fd : FuncData} {ps : List Str} {sp : Sp} (F : FnG X.prog X.w X.K X.mg X.base k f fd ps sp) (hr : Room k X.A) (hgd : X.A.guards = some []) (tk : Takes X W) {pins : List (Addr × Obj)} {s : Shared} {args : Args} {us : List Value} {vs : List V} (I : Inv X pins σ H s)
    (hb : BindsTo s fd args (ps.zip us)) (r : Vals vs us) (q : sp vs H Q fun c d H' => W c d σ H') : codeAny (model X.prog X.w) X.A (.call (.ref f) args) (fun r s' => match r with
      | .ok (.ret u) => EP X pins σ Q u s'
      | .ok _ => False
      | .error e => X.xe e s') s :=
  codeAny_mono (F.run X.A X.stack s H args us vs Q _ hr hgd I.env0 hb r q) fun r s' z => by
    match r, z with
    | .error e, z => exact L2.passAt tk σ pins H s e s' I z
    | .ok (.ret u), z => exact I.after z
/-- a def of the module -/
structure Cal (T : Tab) (P : Program) (w : World) (mg : Str → Option Value) (base : Heap) (k : Nat) (x : Str) (n : Nat) (f : DF) : Prop where
  ex : ∃ (a : Addr) (fd : FuncData) (ps : List Str), FnG P w T.K mg base k a fd ps (spT T n f) ∧ mg x = some (.ref a) ∧ PySem.W.keepIn T.K (.ref a) = true ∧ Binds T.K fd ps [] ∧ ps.length = n
  bad : ∀ ds mu, ds.length ≠ n → f ds mu = .bad
theorem RG.st (g : RG T S H) : StOk T S.io S.mu H := ⟨g.len, g.cell, g.nd⟩
theorem own_some (r : RS T S t σ H) {a : Addr} (hm : some a ∈ S.ps) : ∃ u, H a = some u := by
  cases h : H a with
  | none => exact absurd hm (r.free h).2.2
  | some u => exact ⟨u, rfl⟩
theorem io_some (g : StOk T S.io S.mu H) {a : Addr} (hm : a ∈ S.io) : ∃ u, H a = some u ∧ Mut (some u) := by
  obtain ⟨k, hk, e⟩ := List.getElem_of_mem hm
  have hk2 : k < S.mu.length := by rw [← g.len]; exact hk
  exact (g.cell k a S.mu[k] (by rw [List.getElem?_eq_getElem hk, e]) (List.getElem?_eq_getElem hk2)).mut
/-- behind a call -/
theorem RS.called {io' : List Addr} {m : Store} (r : RS T S t σ H) (pre : S.io <+: io') (new : ∀ p ∈ io', p ∈ S.io ∨ H p = none) (st : StOk T io' m H') (same : ∀ q o, H q = some o → q ∉ S.io → H' q = some o) :
    RS T { S with io := io', mu := m } t σ H' ∧ Nxt S H { S with io := io', mu := m } H' := by
  have kp : Keep H H' := by
    refine ⟨fun b xs e => same _ _ e fun hm => ?_, fun b o u e => same _ _ e fun hm => ?_⟩
    · obtain ⟨v, e2, mu⟩ := io_some r.g.st hm
      rw [e] at e2; cases e2; exact mu
    · obtain ⟨v, e2, mu⟩ := io_some r.g.st hm
      rw [e] at e2; cases e2; exact mu
  have h0 : ∀ p, H p = none → p ∉ S.i0 → S.H0 p = none := fun p e n => by
    cases q : S.H0 p with
    | none => rfl
    | some o => have := r.g.same p o q n; rw [e] at this; cases this
  have ni : ∀ p, H p = none → p ∉ S.i0 := fun p e hm => (r.free e).2.1 (r.g.pre.subset hm)
  refine ⟨⟨⟨fun q o e n => ?_, r.g.pre.trans pre, fun p hp => ?_, r.g.own, st.len, st.cell, st.nd, fun p hp hm => ?_, r.g.psnd⟩, r.l1, r.l2, fun i s v p e1 e2 e3 => ?_⟩, ⟨rfl, rfl, pre, rfl, kp⟩⟩
  · refine same q o (r.g.same q o e n) fun hm => ?_
    rcases r.g.new q hm with z | z
    · exact n z
    · rw [e] at z; cases z
  · rcases new p hp with z | z
    · exact r.g.new p z
    · exact .inr (h0 p z (ni p z))
  · rcases new p hm with z | z
    · exact r.g.apart p hp z
    · exact (r.free z).2.2 hp
  · have x := r.sl i s v p e1 e2 e3
    cases s with
    | no => exact x
    | val d => obtain ⟨a, y, b, c⟩ := x; exact ⟨a, y, b, c.mono kp pre⟩
    | own d =>
      obtain ⟨a, b, c, ow⟩ := x
      refine ⟨a, b, c, ow.mono kp pre ?_⟩
      obtain ⟨u, e, _⟩ := ow.mut
      rw [e]
      exact same a u e (r.g.apart a (by rw [← c]; exact List.mem_of_getElem? e3))
/-- the callee's promise, in the caller's state -/
theorem spT_call {f : DF} {n : Nat} {ds : List D} {vs : List V} (r : RS T S t σ H) (hl : vs.length = n) (rep : Reps T S.io H vs ds) (p : EPost X T .f W S t σ H Q (dfM f ds S.mu)) : spT T n f vs H Q (fun c d H' => W c d σ H') := by
  refine ⟨ds, S.io, S.mu, hl, rep, r.g.st, ?_⟩
  unfold dfM out1 at p
  cases e : f ds S.mu with
  | ok a m =>
    rw [e] at p
    obtain ⟨fr, d⟩ := a
    intro v H' io' pre new st same q
    obtain ⟨rs, nx⟩ := r.called pre new st same
    refine p v H' _ nx rfl rs ?_
    cases fr with
    | false => rw [if_neg Bool.false_ne_true] at q; exact .inl q
    | true =>
      rw [if_pos rfl] at q
      rcases q with q | ⟨a, e1, ow, hn, hi⟩
      · exact .inl q.1
      · obtain ⟨h0, _, hp⟩ := r.free hn
        exact .inr ⟨a, e1, ow, h0, hi, hp⟩
  | exc c fs m =>
    rw [e] at p
    intro dx H' io' pre new st same q
    obtain ⟨rs, nx⟩ := r.called pre new st same
    exact p dx H' _ nx rfl rs q
  | bad => rw [e] at p; exact p.elim
/-- the outcome of a def whose things are new ones -/
def isThing : D → Bool
  | .lst _ => true
  | .dct _ => true
  | .ins _ _ => true
  | _ => false
theorem thing_is {d : D} (h : isThing d = false) : ¬ Thing d := by cases d <;> first | exact fun z => z | cases h
def outN (o : Out (Bool × D)) : Out D := match o with
  | .ok (fr, d) m => if fr = true ∨ isThing d = false then .ok d m else .bad
  | .exc c fs m => .exc c fs m
  | .bad => .bad
def dfN (f : DF) (ds : List D) : M D := fun m => outN (f ds m)
theorem spT_callN {f : DF} {n : Nat} {ds : List D} {vs : List V} (r : RS T S t σ H) (hl : vs.length = n) (rep : Reps T S.io H vs ds) (p : EPost X T .n W S t σ H Q (dfN f ds S.mu)) : spT T n f vs H Q (fun c d H' => W c d σ H') := by
  refine ⟨ds, S.io, S.mu, hl, rep, r.g.st, ?_⟩
  unfold dfN outN at p
  cases e : f ds S.mu with
  | ok a m =>
    rw [e] at p
    obtain ⟨fr, d⟩ := a
    dsimp only at p
    by_cases h : fr = true ∨ isThing d = false
    rotate_left
    · rw [if_neg h] at p; exact p.elim
    rw [if_pos h] at p
    intro v H' io' pre new st same q
    obtain ⟨rs, nx⟩ := r.called pre new st same
    refine p v H' _ nx rfl rs ?_
    cases fr with
    | false =>
      rw [if_neg Bool.false_ne_true] at q
      exact .inl ⟨q, thing_is (h.resolve_left Bool.false_ne_true)⟩
    | true =>
      rw [if_pos rfl] at q
      rcases q with q | ⟨a, e1, ow, hn, hi⟩
      · exact .inl q
      · obtain ⟨h0, _, hp⟩ := r.free hn
        exact .inr ⟨a, e1, ow, h0, hi, hp⟩
  | exc c fs m =>
    rw [e] at p
    intro dx H' io' pre new st same q
    obtain ⟨rs, nx⟩ := r.called pre new st same
    exact p dx H' _ nx rfl rs q
  | bad => rw [e] at p; exact p.elim
/-- f(e, ..), f a def of the module -/
theorem Ev.call {P : Program} {w : World} {mg : Str → Option Value} {base : Heap} {k j n : Nat} {x : Str} {f : DF} {p : Pos} {e : Expr} {es : List Expr} {g : GA} (c : Cal T P w mg base k x n f) (hX : X.prog = P ∧ X.w = w ∧ X.K = T.K ∧ X.mg = mg ∧ X.base = base) (hr : Room j X.A) (hgd : X.A.guards = some []) (hk : k ≤ j) (hg : Gl X x)
    (ha : Ea X T .t (e :: es) g) (hdb : (x == ("__debug__" : Str)) = false := by decide) (he : starEach (e :: es) X.env = (false, eval e X.env) :: starEach es X.env := by rfl) (hpl : (backTo pos (starEach es X.env)).any (·.1) = false := by rfl) :
    Ev X T .f (.Call (.Name x p) (e :: es) [] pos) (gCall (dfM f) g) := by
  obtain ⟨rfl, rfl, hK, rfl, rfl⟩ := hX
  intro W tk S t σ H Q r q
  obtain ⟨a, fd, ps, F, hm, kp, b, hps⟩ := c.ex
  rw [← hK] at F kp b
  intro pins s I
  have key := ha W tk S t σ H (fun vs H1 => spT T n f vs H1 Q (fun c d H' => W c d σ H')) r ?_
  · refine wpAny_Call_Name_kw (L2.ld_glob I hg hm ?_ hdb)
    refine PySem.W.callWith_K (h₀ := X.base) I.ok.mod.kin kp (L2.thn (key pos pins s I) fun us s1 ⟨vs, H1, I1, r1, z⟩ => ⟨I1.kIn, ?_⟩) he hpl
    have hb := b s1 us I1.kIn (by rw [List.append_nil, ← r1.length]; exact F.len _ _ _ _ z)
    rw [List.append_nil] at hb
    exact wpAny_call (codeAny_mono ((F.mono hk).go hr hgd tk I1 hb r1 z) fun r s' y => by
      match r, y with
      | .error e, y => exact y
      | .ok (.ret u), y => exact y)
  · refine EPost.bindA (κ1 := .t) q fun ds m vs H' S' nx hm' rs rep p' => ?_
    have hl : vs.length = n := by
      rw [rep.s.length]
      refine Classical.byContradiction fun z => ?_
      unfold dfM out1 at p'
      rw [c.bad ds m z] at p'
      exact p'
    rw [← hm'] at p'
    exact spT_call rs hl rep.s p'
/-- f(e, ..), what comes out newly made -/
theorem Ev.callN {P : Program} {w : World} {mg : Str → Option Value} {base : Heap} {k j n : Nat} {x : Str} {f : DF} {p : Pos} {e : Expr} {es : List Expr} {g : GA} (c : Cal T P w mg base k x n f) (hX : X.prog = P ∧ X.w = w ∧ X.K = T.K ∧ X.mg = mg ∧ X.base = base) (hr : Room j X.A) (hgd : X.A.guards = some []) (hk : k ≤ j) (hg : Gl X x)
    (ha : Ea X T .t (e :: es) g) (hdb : (x == ("__debug__" : Str)) = false := by decide) (he : starEach (e :: es) X.env = (false, eval e X.env) :: starEach es X.env := by rfl) (hpl : (backTo pos (starEach es X.env)).any (·.1) = false := by rfl) :
    Ev X T .n (.Call (.Name x p) (e :: es) [] pos) (gCall (dfN f) g) := by
  obtain ⟨rfl, rfl, hK, rfl, rfl⟩ := hX
  intro W tk S t σ H Q r q
  obtain ⟨a, fd, ps, F, hm, kp, b, hps⟩ := c.ex
  rw [← hK] at F kp b
  intro pins s I
  have key := ha W tk S t σ H (fun vs H1 => spT T n f vs H1 Q (fun c d H' => W c d σ H')) r ?_
  · refine wpAny_Call_Name_kw (L2.ld_glob I hg hm ?_ hdb)
    refine PySem.W.callWith_K (h₀ := X.base) I.ok.mod.kin kp (L2.thn (key pos pins s I) fun us s1 ⟨vs, H1, I1, r1, z⟩ => ⟨I1.kIn, ?_⟩) he hpl
    have hb := b s1 us I1.kIn (by rw [List.append_nil, ← r1.length]; exact F.len _ _ _ _ z)
    rw [List.append_nil] at hb
    exact wpAny_call (codeAny_mono ((F.mono hk).go hr hgd tk I1 hb r1 z) fun r s' y => by
      match r, y with
      | .error e, y => exact y
      | .ok (.ret u), y => exact y)
  · refine EPost.bindA (κ1 := .t) q fun ds m vs H' S' nx hm' rs rep p' => ?_
    have hl : vs.length = n := by
      rw [rep.s.length]
      refine Classical.byContradiction fun z => ?_
      unfold dfN outN at p'
      rw [c.bad ds m z] at p'
      exact p'
    rw [← hm'] at p'
    exact spT_callN rs hl rep.s p'
/-! ### statements -/
theorem Ess.nil : Ess X T [] sNil := fun W tk S t σ H E r p => PSs.w L2.pss_nil (p S σ H (NxtS.refl _ _) rfl r)
theorem Ess.cons {st : Stmt} {rest : List Stmt} {g u : GS} (h : Es X T st g) (h2 : Ess X T rest u) : Ess X T (st :: rest) (sSeq g u) := by
  intro W tk S t σ H E r p
  refine PSs.w (L2.pss_cons (wS_ps X st) (wSs_pss X rest)) ?_
  refine h W tk S t σ H _ r ?_
  unfold sSeq at p
  cases q : g t S.mu with
  | next t' m' =>
    rw [q] at p
    intro S' σ' H' nx hm rs
    exact h2 W tk S' t' σ' H' E rs (by rw [hm]; exact SPost.shift nx p)
  | ret f d m => rw [q] at p; exact p
  | exc c fs t m => rw [q] at p; exact p
  | brk t m => rw [q] at p; exact p
  | cont t m => rw [q] at p; exact p
  | bad => rw [q] at p; exact p
theorem Ess.one {st : Stmt} {g : GS} (h : Es X T st g) : Ess X T [st] g := fun W tk S t σ H E r p => PSs.w (L2.pss_one (wS_ps X st)) (h W tk S t σ H E r p)
/-- a slot is stored: the state behind -/
theorem RS.store {i : Nat} {s : Slot} {v : V} {a : Option Addr} (r : RS T S t σ H) (own : ∀ p, a = some p → S.H0 p = none ∧ p ∉ S.io ∧ some p ∉ S.ps) (h : SlotOk T S H (some v) a s) : RS T { S with ps := S.ps.set i a } (t.set i s) (σ.set i (some v)) H := by
  refine ⟨⟨r.g.same, r.g.pre, r.g.new, fun p hp => ?_, r.g.len, r.g.cell, r.g.nd, fun p hp => ?_, fun j k p e1 e2 => ?_⟩, by simp [r.l1], by simp [r.l2], fun j s' v' p e1 e2 e3 => ?_⟩
  · rcases List.mem_or_eq_of_mem_set hp with z | z
    · exact r.g.own p z
    · exact (own p z.symm).1
  · rcases List.mem_or_eq_of_mem_set hp with z | z
    · exact r.g.apart p z
    · exact (own p z.symm).2.1
  · have e1 : (S.ps.set i a)[j]? = some (some p) := e1
    have e2 : (S.ps.set i a)[k]? = some (some p) := e2
    by_cases hj : i = j <;> by_cases hk : i = k
    · exact hj.symm.trans hk
    · exfalso
      subst hj
      rw [List.getElem?_set_ne hk] at e2
      have hl : i < S.ps.length := by
        have := (List.getElem?_eq_some_iff.mp e1).1
        simpa using this
      rw [List.getElem?_set_self hl] at e1
      exact (own p (Option.some.inj e1)).2.2 (List.mem_of_getElem? e2)
    · exfalso
      subst hk
      rw [List.getElem?_set_ne hj] at e1
      have hl : i < S.ps.length := by
        have := (List.getElem?_eq_some_iff.mp e2).1
        simpa using this
      rw [List.getElem?_set_self hl] at e2
      exact (own p (Option.some.inj e2)).2.2 (List.mem_of_getElem? e1)
    · rw [List.getElem?_set_ne hj] at e1
      rw [List.getElem?_set_ne hk] at e2
      exact r.g.psnd j k p e1 e2
  · have e3 : (S.ps.set i a)[j]? = some p := e3
    by_cases hj : i = j
    · subst hj
      have h1 : i < t.length := by have := (List.getElem?_eq_some_iff.mp e1).1; simpa using this
      have h2 : i < σ.length := by rw [← r.l1]; exact h1
      have h3 : i < S.ps.length := by rw [r.l2]; exact h2
      rw [List.getElem?_set_self h1] at e1
      rw [List.getElem?_set_self h2] at e2
      rw [List.getElem?_set_self h3] at e3
      cases e1; cases e2; cases e3
      cases s with
      | _ => exact h
    · rw [List.getElem?_set_ne hj] at e1 e2 e3
      exact r.sl j s' v' p e1 e2 e3
theorem NxtS.ps {l : List (Option Addr)} : NxtS S H { S with ps := l } H := ⟨rfl, rfl, List.prefix_refl _, Keep.refl _⟩
theorem RS.setVal {i : Nat} {v : V} {d : D} (r : RS T S t σ H) (h : Rep T S.io H v d) : RS T { S with ps := S.ps.set i none } (t.set i (.val d)) (σ.set i (some v)) H :=
  r.store (s := .val d) (a := none) (fun p z => by cases z) ⟨rfl, v, rfl, h⟩
theorem RS.setOwn {i : Nat} {a : Addr} {d : D} (r : RS T S t σ H) (h0 : S.H0 a = none) (hi : a ∉ S.io) (hp : some a ∉ S.ps) (h : OwnAt T S.io H a d) : RS T { S with ps := S.ps.set i (some a) } (t.set i (.own d)) (σ.set i (some (.ref a))) H :=
  r.store (s := .own d) (v := .ref a) (a := some a) (fun p z => by cases z; exact ⟨h0, hi, hp⟩) ⟨a, rfl, rfl, h⟩
theorem Es.set {i : Nat} {x : Str} {e : Expr} {g : GE} {pos' : Pos} (he : Ev X T .t e g) (hN : X.N.Nodup) (hi : X.N[i]? = some x) (hx : Loc X.env.scope x) (hs : swapsWith e (some (.Name x pos')) pos.line X.env = pure false := by rfl)
    (hf : X.fn x = true ∨ X.env.scope.names.lookup x = some .local := by first | exact .inl rfl | exact .inr rfl | assumption) : Es X T (.Assign [.Name x pos'] e pos) (sSet i g) := by
  intro W tk S t σ H E r p
  refine PS.w (L2.ps_set hN hi hx (wE_pe X e) hs hf) ?_
  refine he W tk S t σ H _ r (SPost.bind (κ1 := .t) p fun d m v H' S' nx hm rs rep p' => ?_)
  exact p' { S' with ps := S'.ps.set i none } _ H' NxtS.ps hm (rs.setVal rep)
theorem Es.new {i : Nat} {x : Str} {e : Expr} {g : GE} {pos' : Pos} (he : Ev X T .n e g) (hN : X.N.Nodup) (hi : X.N[i]? = some x) (hx : Loc X.env.scope x) (hs : swapsWith e (some (.Name x pos')) pos.line X.env = pure false := by rfl)
    (hf : X.fn x = true ∨ X.env.scope.names.lookup x = some .local := by first | exact .inl rfl | exact .inr rfl | assumption) : Es X T (.Assign [.Name x pos'] e pos) (sNew i g) := by
  intro W tk S t σ H E r p
  refine PS.w (L2.ps_set hN hi hx (wE_pe X e) hs hf) ?_
  refine he W tk S t σ H _ r (SPost.bind (κ1 := .n) p fun d m v H' S' nx hm rs rep p' => ?_)
  rcases rep with ⟨rep, nt⟩ | ⟨a, rfl, ow, h0, hi, hp⟩
  · have e : slotOf d = .val d := by cases d <;> first | rfl | exact absurd trivial nt
    rw [e] at p'
    exact p' { S' with ps := S'.ps.set i none } _ H' NxtS.ps hm (rs.setVal rep)
  · have e : slotOf d = .own d := by
      have th := ow.thing
      cases d <;> first | rfl | exact th.elim
    rw [e] at p'
    exact p' { S' with ps := S'.ps.set i (some a) } _ H' NxtS.ps hm (rs.setOwn h0 hi hp ow)
theorem Es.expr {e : Expr} {g : GE} (he : Ev X T κ e g) (hs : swapsWith e none pos.line X.env = pure false := by rfl) : Es X T (.Expr e pos) (sExpr g) := by
  intro W tk S t σ H E r p
  refine PS.w (L2.ps_expr (wE_pe X e) hs) ?_
  exact he W tk S t σ H _ r (SPost.bind (κ1 := κ) p fun d m v H' S' nx hm rs rep p' => p' S' σ H' (NxtS.refl _ _) hm rs)
theorem Es.ret {e : Expr} {g : GE} (he : Ev X T .t e g) : Es X T (.Return (some e) pos) (sRet g) := by
  intro W tk S t σ H E r p
  refine PS.w (L2.ps_ret (wE_pe X e)) ?_
  exact he W tk S t σ H _ r (SPost.bind (κ1 := .t) p fun d m v H' S' nx hm rs rep p' => p' v S' H' (NxtS.refl _ _) hm rs.g (by rw [if_neg Bool.false_ne_true]; exact rep))
theorem RepK.n_any {t t' : Fr} {v : V} {d : D} (h : RepK T .n S t H v d) : RepK T .n S t' H v d := h
theorem Es.retF {e : Expr} {g : GE} (he : Ev X T .n e g) : Es X T (.Return (some e) pos) (sRetF g) := by
  intro W tk S t σ H E r p
  refine PS.w (L2.ps_ret (wE_pe X e)) ?_
  exact he W tk S t σ H _ r (SPost.bind (κ1 := .n) p fun d m v H' S' nx hm rs rep p' => p' v S' H' (NxtS.refl _ _) hm rs.g (by rw [if_pos rfl]; exact rep.n_any))
theorem Es.retN : Es X T (.Return none pos) sRetN := by
  intro W tk S t σ H E r p
  refine PS.w L2.ps_retN ?_
  exact p .non S H (NxtS.refl _ _) rfl r.g (by rw [if_neg Bool.false_ne_true]; exact .non)
/-- the frame's own thing goes out of the frame's hands -/
theorem RG.drop {i : Nat} (g : RG T S H) : RG T { S with ps := S.ps.set i none } H := by
  refine ⟨g.same, g.pre, g.new, fun p hp => ?_, g.len, g.cell, g.nd, fun p hp => ?_, fun j k p e1 e2 => ?_⟩
  · rcases List.mem_or_eq_of_mem_set hp with z | z
    · exact g.own p z
    · cases z
  · rcases List.mem_or_eq_of_mem_set hp with z | z
    · exact g.apart p z
    · cases z
  · have e1 : (S.ps.set i none)[j]? = some (some p) := e1
    have e2 : (S.ps.set i none)[k]? = some (some p) := e2
    have nj : ∀ l, (S.ps.set i none)[l]? = some (some p) → S.ps[l]? = some (some p) := fun l e => by
      by_cases h : i = l
      · subst h
        have hl : i < S.ps.length := by have := (List.getElem?_eq_some_iff.mp e).1; simpa using this
        rw [List.getElem?_set_self hl] at e
        cases e
      · rw [List.getElem?_set_ne h] at e; exact e
    exact g.psnd j k p (nj j e1) (nj k e2)
theorem RG.notin {i : Nat} {a : Addr} (g : RG T S H) (h : S.ps[i]? = some (some a)) : some a ∉ S.ps.set i none := fun hm => by
  obtain ⟨j, hj, e⟩ := List.getElem_of_mem hm
  have hj' : j < S.ps.length := by simpa using hj
  by_cases h1 : i = j
  · subst h1
    have e2 : (S.ps.set i none)[i]? = some (some a) := by rw [List.getElem?_eq_getElem hj, e]
    rw [List.getElem?_set_self hj'] at e2
    cases e2
  · have e2 : (S.ps.set i none)[j]? = some (some a) := by rw [List.getElem?_eq_getElem hj, e]
    rw [List.getElem?_set_ne h1] at e2
    exact h1 (g.psnd i j a h e2)
theorem Es.retOwn {i : Nat} {x : Str} {p1 : Pos} (hN : X.N[i]? = some x) (hv : Vis X.env.scope x) (hd : (x == ("__debug__" : Str)) = false := by decide) (hcd : (x == ("__classdict__" : Str)) = false := by decide) :
    Es X T (.Return (some (.Name x p1)) pos) (sRetOwn i) := by
  intro W tk S t σ H E r p
  refine PS.w (L2.ps_ret (L2.pe_var hN hv hd hcd)) ?_
  unfold sRetOwn at p
  cases h : t[i]? with
  | none => rw [h] at p; exact p.elim
  | some s =>
    have hi : i < σ.length := by rw [← r.l1]; exact (List.getElem?_eq_some_iff.mp h).1
    have hp : i < S.ps.length := by rw [r.l2]; exact hi
    have z := r.sl i s σ[i] S.ps[i] h (List.getElem?_eq_getElem hi) (List.getElem?_eq_getElem hp)
    rw [h] at p
    cases s with
    | no => exact p.elim
    | val d =>
      obtain ⟨_, y, e1, rep⟩ := z
      exact ⟨y, by rw [List.getElem?_eq_getElem hi, e1], p y S H (NxtS.refl _ _) rfl r.g (by rw [if_neg Bool.false_ne_true]; exact rep)⟩
    | own d =>
      obtain ⟨a, e1, e2, ow⟩ := z
      have e3 : S.ps[i]? = some (some a) := by rw [List.getElem?_eq_getElem hp, e2]
      refine ⟨.ref a, by rw [List.getElem?_eq_getElem hi, e1], p _ { S with ps := S.ps.set i none } H NxtS.ps rfl r.g.drop ?_⟩
      rw [if_pos rfl]
      exact .inr ⟨a, rfl, ow, r.g.own a (List.mem_of_getElem? e3), r.g.apart a (List.mem_of_getElem? e3), r.g.notin e3⟩
theorem Es.ite {c : Expr} {a b : List Stmt} {gc : GB} {ga gb : GS} (hc : Et X T c gc) (ha : Ess X T a ga) (hb : Ess X T b gb) : Es X T (.If c a b pos) (sIf gc ga gb) := by
  intro W tk S t σ H E r p
  refine PS.w (L2.ps_if (wT_pt X c) (wSs_pss X a) (wSs_pss X b)) ?_
  refine hc W tk S t σ H _ r (SPost.bindB p fun k m H' S' nx hm rs p' => ?_)
  cases k with
  | true => rw [if_pos rfl] at p' ⊢; exact ha W tk S' t σ H' E rs (by rw [hm]; exact p')
  | false => rw [if_neg Bool.false_ne_true] at p' ⊢; exact hb W tk S' t σ H' E rs (by rw [hm]; exact p')
theorem Es.pass : Es X T (.Pass pos) sNil := fun W tk S t σ H E r p => PS.w L2.ps_pass (p S σ H (NxtS.refl _ _) rfl r)
theorem Es.brk : Es X T (.Break pos) sBrk := fun W tk S t σ H E r p => PS.w L2.ps_break (p S σ H (NxtS.refl _ _) rfl r)
theorem Es.cont : Es X T (.Continue pos) sCont := fun W tk S t σ H E r p => PS.w L2.ps_continue (p S σ H (NxtS.refl _ _) rfl r)
/-! ### an own thing becomes a tree -/
theorem RS.lock {i : Nat} {a : Addr} {d : D} {od : Obj} {u : HO} (r : RS T S t σ H) (h : t[i]? = some (.own d)) (hp : S.ps[i]? = some (some a)) (hs : σ[i]? = some (some (.ref a))) (ow : OwnAt T S.io H a d) (e : H a = some u) (mu : Mut (some u)) :
    RS T { S with ps := S.ps.set i none } (t.set i (.val d)) σ (upd H a (.frz od u)) ∧ Keep H (upd H a (.frz od u)) := by
  have k : Keep H (upd H a (.frz od u)) := Keep.upd (.inr (by rw [e]; exact mu))
  have hm : some a ∈ S.ps := List.mem_of_getElem? hp
  have keepO : ∀ {b d}, b ≠ a → OwnAt T S.io H b d → OwnAt T S.io (upd H a (.frz od u)) b d := fun {b d} ne x => x.mono k (List.prefix_refl _) (upd_ne ne)
  have gd := r.g.drop (i := i)
  refine ⟨⟨⟨fun q o z n => ?_, gd.pre, gd.new, gd.own, gd.len, fun j b c e1 e2 => ?_, gd.nd, gd.apart, gd.psnd⟩, by simp [r.l1], by simp [r.l2], fun j s v p e1 e2 e3 => ?_⟩, k⟩
  · rw [upd_ne (ne_of_none z (r.g.own a hm))]; exact r.g.same q o z n
  · exact keepO (fun z => r.g.apart a hm (z ▸ List.mem_of_getElem? e1)) (r.g.cell j b c e1 e2)
  · have e3 : (S.ps.set i none)[j]? = some p := e3
    by_cases hj : i = j
    · subst hj
      have h1 : i < t.length := (List.getElem?_eq_some_iff.mp h).1
      have h3 : i < S.ps.length := (List.getElem?_eq_some_iff.mp hp).1
      rw [List.getElem?_set_self h1] at e1
      rw [List.getElem?_set_self h3] at e3
      rw [hs] at e2
      cases e1; cases e3; cases e2
      exact ⟨rfl, .ref a, rfl, ow.lock k e upd_same⟩
    · rw [List.getElem?_set_ne hj] at e1 e3
      have x := r.sl j s v p e1 e2 e3
      cases s with
      | no => exact x
      | val d => obtain ⟨a1, y, b, c⟩ := x; exact ⟨a1, y, b, c.mono k (List.prefix_refl _)⟩
      | own d2 =>
        obtain ⟨b, f, g, x⟩ := x
        refine ⟨b, f, g, keepO (fun z => ?_) x⟩
        rw [z] at g
        rw [g] at e3
        exact hj (r.g.psnd i j a hp e3)
theorem wSs_lock {st : List Stmt} {E : Ends} {a : Addr} {u : HO} (e : H a = some u) (mu : Mut (some u)) (h : ∀ od, wSs X st E σ (upd H a (.frz od u))) : wSs X st E σ H := fun pins s I => by
  obtain ⟨od, J⟩ := I.lock e mu
  exact h od pins s J
theorem Ess.freeze {i : Nat} {rest : List Stmt} {g : GS} (h : Ess X T rest g) : Ess X T rest (sSeq (sFreeze i) g) := by
  intro W tk S t σ H E r p
  unfold sSeq sFreeze at p
  cases e : t[i]? with
  | none => rw [e] at p; exact p.elim
  | some s =>
    rw [e] at p
    cases s with
    | no => exact p.elim
    | val d => exact h W tk S t σ H E r p
    | own d =>
      have hi : i < σ.length := by rw [← r.l1]; exact (List.getElem?_eq_some_iff.mp e).1
      have hp : i < S.ps.length := by rw [r.l2]; exact hi
      obtain ⟨a, e1, e2, ow⟩ := r.sl i _ σ[i] S.ps[i] e (List.getElem?_eq_getElem hi) (List.getElem?_eq_getElem hp)
      obtain ⟨u, eu, mu⟩ := ow.mut
      refine wSs_lock eu mu fun od => ?_
      have z := r.lock (i := i) (od := od) e (by rw [List.getElem?_eq_getElem hp, e2]) (by rw [List.getElem?_eq_getElem hi, e1]) ow eu mu
      have nn : NxtS S H { S with ps := S.ps.set i none } (upd H a (.frz od u)) := ⟨rfl, rfl, List.prefix_refl _, z.2⟩
      exact h W tk { S with ps := S.ps.set i none } _ σ _ E z.1 (SPost.shift nn p)
end
end TL
set_option Elab.async false
set_option linter.all false
set_option maxRecDepth 100000
set_option maxHeartbeats 2000000
/-! TLf: what is walked; for, while, list comprehensions. -/
namespace TL
open PySem PySem.Spec
open PyProof.Rows hiding St
open L2 (V HO Hp Cx Inv VK TE TS TI TG TGs It Ends SqL SqT upd upd_same upd_ne ne_of ne_of_none Rd Mut EP AP SP PE PA PG PGs PI PIE PW PT PS PSs PT TP WX Takes RelV Vals Key kV Vis Loc Gl FnOk Sp Binds Room XK BlkOk)
section
variable {X : Cx} {T : Tab} {κ κ1 κ2 : Kd} {W : WX} {S S' : Sx} {t : Fr} {σ : L2.St} {H H' : Hp} {Q Q1 : VK} {pos : Pos}
/-! ### targets -/
def gNs : List Nat → TGs
  | [] => L2.gNil
  | i :: is => L2.gCons (L2.gName i) (gNs is)
def tgOf (K : PySem.W.Frag) : Tg → TG
  | .nm i => L2.gName i
  | .tp l => L2.gTup K l.length (gNs l)
def setPs : List Nat → List (Option Addr) → List (Option Addr)
  | [], ps => ps
  | i :: is, ps => setPs is (ps.set i none)
theorem wipeF_length (t : Fr) : ∀ vs : List Nat, (wipeF t vs).length = t.length
  | [] => rfl
  | v :: vs => by unfold wipeF; rw [List.length_set, wipeF_length t vs]
theorem wipeF_at {t : Fr} {i : Nat} : ∀ {vs : List Nat}, (wipeF t vs)[i]? = if i ∈ vs then (t[i]?).map (fun _ => Slot.no) else t[i]?
  | [] => by simp [wipeF]
  | v :: vs => by
    unfold wipeF
    have ih := wipeF_at (t := t) (i := i) (vs := vs)
    by_cases h : v = i
    · subst h
      rw [if_pos List.mem_cons_self, List.getElem?_set]
      by_cases hl : v < t.length
      · simp [wipeF_length, hl]
      · simp [wipeF_length, hl]
    · rw [List.getElem?_set_ne h, ih]
      by_cases hm : i ∈ vs
      · rw [if_pos hm, if_pos (List.mem_cons_of_mem _ hm)]
      · rw [if_neg hm, if_neg]
        intro z
        rcases List.mem_cons.mp z with z | z
        · exact h z.symm
        · exact hm z
theorem wipe_at {σ : L2.St} {i : Nat} : ∀ {vs : List Nat}, (L2.wipe σ vs)[i]? = if i ∈ vs then (σ[i]?).map (fun _ => (none : Option V)) else σ[i]?
  | [] => by simp [L2.wipe]
  | v :: vs => by
    unfold L2.wipe
    have ih := wipe_at (σ := σ) (i := i) (vs := vs)
    by_cases h : v = i
    · subst h
      rw [if_pos List.mem_cons_self, List.getElem?_set]
      by_cases hl : v < σ.length
      · simp [L2.wipe_length, hl]
      · simp [L2.wipe_length, hl]
    · rw [List.getElem?_set_ne h, ih]
      by_cases hm : i ∈ vs
      · rw [if_pos hm, if_pos (List.mem_cons_of_mem _ hm)]
      · rw [if_neg hm, if_neg]
        intro z
        rcases List.mem_cons.mp z with z | z
        · exact h z.symm
        · exact hm z
theorem wipe_set {vs : List Nat} {i : Nat} {v : Option V} (h : i ∈ vs) (σ : L2.St) : L2.wipe (σ.set i v) vs = L2.wipe σ vs := by
  refine List.ext_getElem? fun k => ?_
  rw [wipe_at, wipe_at]
  by_cases hk : i = k
  · subst hk
    rw [if_pos h, if_pos h, List.getElem?_set]
    by_cases hl : i < σ.length <;> simp [hl]
  · rw [List.getElem?_set_ne hk]
theorem wipeF_set {vs : List Nat} {i : Nat} {s : Slot} (h : i ∈ vs) (t : Fr) : wipeF (t.set i s) vs = wipeF t vs := by
  refine List.ext_getElem? fun k => ?_
  rw [wipeF_at, wipeF_at]
  by_cases hk : i = k
  · subst hk
    rw [if_pos h, if_pos h, List.getElem?_set]
    by_cases hl : i < t.length <;> simp [hl]
  · rw [List.getElem?_set_ne hk]
theorem setAll_ok : ∀ {l : List Nat} {ds : List D} {xs : List V} {t t' : Fr} {σ : L2.St} {S : Sx} {Q : L2.St → Hp → Prop}, RS T S t σ H → setAll l ds t = some t' → Reps T S.io H xs ds →
    (∀ σ', RS T { S with ps := setPs l S.ps } t' σ' H → (∀ vs : List Nat, (∀ i ∈ l, i ∈ vs) → L2.wipe σ' vs = L2.wipe σ vs ∧ wipeF t' vs = wipeF t vs) → Q σ' H) → gNs l xs σ H Q
  | [], [], _, t, t', σ, S, Q, r, e, .nil, k => by cases e; exact ⟨rfl, k σ r fun _ _ => ⟨rfl, rfl⟩⟩
  | i :: is, d :: ds, _, t, t', σ, S, Q, r, e, .cons a b, k => by
    refine ⟨_, _, rfl, ?_⟩
    show gNs is _ (σ.set i (some _)) H Q
    refine setAll_ok (S := { S with ps := S.ps.set i none }) (r.setVal a) e b fun σ' r' hw => k σ' r' fun vs hv => ?_
    obtain ⟨h1, h2⟩ := hw vs fun j hj => hv j (List.mem_cons_of_mem _ hj)
    have hi := hv i List.mem_cons_self
    exact ⟨h1.trans (wipe_set hi σ), h2.trans (wipeF_set hi t)⟩
  | [], _ :: _, _, _, _, _, _, _, _, e, _, _ => by cases e
  | _ :: _, [], _, _, _, _, _, _, _, e, _, _ => by cases e
theorem setAll_len : ∀ {l : List Nat} {ds : List D} {t t' : Fr}, setAll l ds t = some t' → l.length = ds.length
  | [], [], _, _, _ => rfl
  | i :: is, d :: ds, t, t', e => congrArg (· + 1) (setAll_len (l := is) (ds := ds) e)
  | [], _ :: _, _, _, e => by cases e
  | _ :: _, [], _, _, e => by cases e
theorem tg_ok {g : Tg} {d : D} {x : V} {t' : Fr} {Q : L2.St → Hp → Prop} (r : RS T S t σ H) (e : g.bind d t = some t') (a : Rep T S.io H x d)
    (k : ∀ σ', RS T { S with ps := setPs g.ix S.ps } t' σ' H → (∀ vs : List Nat, (∀ i ∈ g.ix, i ∈ vs) → L2.wipe σ' vs = L2.wipe σ vs ∧ wipeF t' vs = wipeF t vs) → Q σ' H) : tgOf T.K g x σ H Q := by
  cases g with
  | nm i =>
    cases e
    refine k _ (r.setVal a) fun vs hv => ?_
    have hi := hv i List.mem_cons_self
    exact ⟨wipe_set hi σ, wipeF_set hi t⟩
  | tp l =>
    cases d with
    | tup ds =>
      cases a with
      | tup h rs => exact ⟨_, _, rfl, h, by rw [rs.length]; exact (setAll_len e).symm, setAll_ok r e rs k⟩
    | _ => cases e
/-! ### what is walked -/
/-- J yields the items, whatever comes between -/
def Yl (T : Tab) (io : List Addr) (H : Hp) (J : It) (ds : List D) : Prop := ∀ H', Keep H H' →
  (∀ (i : Nat) (d : D), ds[i]? = some d → J.go i H' ∧ ∀ x H'', J.yld i H' x H'' → (∀ q o, H' q = some o → H'' q = some o) ∧ Rep T io H'' x d) ∧ J.stop ds.length H'
abbrev wI (X : Cx) (tg iter : Expr) : TI := fun σ H R => ∀ (pins : List (Addr × Obj)) (s : Shared), Inv X pins σ H s → wpAny (model X.prog X.w) X.A (eval iter X.env) (fun v s1 => wpAny (model X.prog X.w) X.A (pyIter v) (PIE X pins σ tg R) X.xe s1) X.xe s
theorem wI_pi (X : Cx) (tg iter : Expr) : PI X tg iter (wI X tg iter) := ⟨fun pins s _ _ _ I h => h pins s I⟩
theorem PI.w {tg iter : Expr} {wi : TI} (p : PI X tg iter wi) {R : It → Hp → Prop} (h : wi σ H R) : wI X tg iter σ H R := fun pins s I => p.run pins s σ H R I h
def IPost (X : Cx) (T : Tab) (W : WX) (S : Sx) (t : Fr) (σ : L2.St) (H : Hp) (R : It → Hp → Prop) : Out (List D) → Prop
  | .ok ds m => ∀ J H' S', Nxt S H S' H' → S'.mu = m → RS T S' t σ H' → Yl T S'.io H' J ds → R J H'
  | .exc c fs m => ∀ dx H' S', Nxt S H S' H' → S'.mu = m → RS T S' t σ H' → ExcAt T S'.io H' c dx fs → W (.ref (T.ad c)) dx σ H'
  | .bad => False
def Ei (X : Cx) (T : Tab) (tg e : Expr) (g : GI) : Prop :=
  ∀ (W : WX), Takes X W → ∀ (S : Sx) (t : Fr) (σ : L2.St) (H : Hp) (R : It → Hp → Prop), RS T S t σ H → IPost X T W S t σ H R (g t S.mu) → wI X tg e σ H R
theorem IPost.bind {o : Out D} {f : D → Store → Out (List D)} {R : It → Hp → Prop} (h : IPost X T W S t σ H R (o.bind f))
    (k : ∀ d m v H' S', Nxt S H S' H' → S'.mu = m → RS T S' t σ H' → RepK T κ1 S' t H' v d → (IPost X T W S' t σ H' R (f d m)) → Q1 v H') : EPost X T κ1 W S t σ H Q1 o := by
  cases o with
  | ok d m =>
    refine fun v H' S' nx hm rs rep => k d m v H' S' nx hm rs rep ?_
    have h : IPost X T W S t σ H R (f d m) := h
    cases q : f d m with
    | ok ds m => rw [q] at h; exact fun J H2 S2 n2 => h J H2 S2 (nx.trans n2)
    | exc c fs m => rw [q] at h; exact fun dx H2 S2 n2 => h dx H2 S2 (nx.trans n2)
    | bad => rw [q] at h; exact h
  | exc c fs m => exact h
  | bad => exact h
theorem IPost.bindA {o : Out (List D)} {f : List D → Store → Out (List D)} {R : It → Hp → Prop} {Q1 : List V → Hp → Prop} (h : IPost X T W S t σ H R (o.bind f))
    (k : ∀ d m v H' S', Nxt S H S' H' → S'.mu = m → RS T S' t σ H' → RepL T κ1 S' t H' v d → (IPost X T W S' t σ H' R (f d m)) → Q1 v H') : APost X T κ1 W S t σ H Q1 o := by
  cases o with
  | ok d m =>
    refine fun v H' S' nx hm rs rep => k d m v H' S' nx hm rs rep ?_
    have h : IPost X T W S t σ H R (f d m) := h
    cases q : f d m with
    | ok ds m => rw [q] at h; exact fun J H2 S2 n2 => h J H2 S2 (nx.trans n2)
    | exc c fs m => rw [q] at h; exact fun dx H2 S2 n2 => h dx H2 S2 (nx.trans n2)
    | bad => rw [q] at h; exact h
  | exc c fs m => exact h
  | bad => exact h
theorem yl_list {a : Addr} {vs : List V} {ds : List D} (h : Fz T.K H a vs) (r : Reps T S.io H vs ds) : Yl T S.io H (L2.Itl T.K a) ds := fun H' k => by
  have h' := k.fz h
  have r' := r.mono k (List.prefix_refl _)
  refine ⟨fun i d e => ?_, ⟨vs, h'.sq, by rw [r'.length]; exact Nat.le_refl _⟩⟩
  obtain ⟨v, e1, rv⟩ := r'.get e
  refine ⟨⟨vs, v, h'.sq, e1⟩, fun x H'' y => ?_⟩
  obtain ⟨rfl, y⟩ := y
  have := y vs h'.sq
  rw [e1] at this
  cases this
  exact ⟨fun _ _ z => z, rv⟩
theorem yl_tup {a : Addr} {vs : List V} {ds : List D} (h : SqT T.K H a vs) (r : Reps T S.io H vs ds) : Yl T S.io H (L2.Itt T.K a) ds := fun H' k => by
  have h' := k.rdT h
  have r' := r.mono k (List.prefix_refl _)
  refine ⟨fun i d e => ?_, ⟨vs, h', by rw [r'.length]; exact Nat.le_refl _⟩⟩
  obtain ⟨v, e1, rv⟩ := r'.get e
  refine ⟨⟨vs, v, h', e1⟩, fun x H'' y => ?_⟩
  obtain ⟨rfl, y⟩ := y
  have := y vs h'
  rw [e1] at this
  cases this
  exact ⟨fun _ _ z => z, rv⟩
theorem rng_at {lo : Int} {n i : Nat} {d : D} (h : (rng lo n)[i]? = some d) : i < n ∧ d = .int (lo + (i : Int)) := by
  unfold rng at h
  rw [List.getElem?_map] at h
  by_cases hi : i < n
  · rw [List.getElem?_range hi] at h
    cases h
    exact ⟨hi, rfl⟩
  · rw [List.getElem?_eq_none (by simpa using Nat.le_of_not_lt hi)] at h
    cases h
theorem yl_rng {lo : Int} {n : Nat} : Yl T S.io H (L2.Itr lo n) (rng lo n) := fun H' k => by
  refine ⟨fun i d e => ?_, ?_⟩
  · obtain ⟨hi, rfl⟩ := rng_at e
    refine ⟨hi, fun x H'' y => ?_⟩
    obtain ⟨rfl, rfl⟩ := y
    exact ⟨fun _ _ z => z, .int _⟩
  · show n ≤ (rng lo n).length
    simp [rng]
theorem Ei.seq {tg e : Expr} {g : GE} (hX : X.K = T.K) (he : Ev X T .t e g) : Ei X T tg e (iSeq g) := by
  intro W tk S t σ H R r p pins s I
  have key := he W tk S t σ H (fun x H1 => (∃ a vs, x = .ref a ∧ SqL X.K H1 a vs ∧ R (L2.Itl X.K a) H1) ∨ ∃ a vs, x = .ref a ∧ SqT X.K H1 a vs ∧ R (L2.Itt X.K a) H1) r
    (IPost.bind (κ1 := .t) p fun d m v H' S' nx hm rs rep p' => by
      cases d with
      | lst ds =>
        cases rep with
        | lst h rr => exact .inl ⟨_, _, rfl, by rw [hX]; exact h.sq, by rw [hX]; exact p' _ H' S' (Nxt.refl _ _) hm rs (yl_list h rr)⟩
      | tup ds =>
        cases rep with
        | tup h rr => exact .inr ⟨_, _, rfl, by rw [hX]; exact h, by rw [hX]; exact p' _ H' S' (Nxt.refl _ _) hm rs (yl_tup h rr)⟩
      | _ => exact False.elim p')
  refine L2.thn (key pins s I) fun v s1 ⟨x, H1, I1, r1, q1⟩ => ?_
  rcases q1 with ⟨a, xs, rfl, hq, q⟩ | ⟨a, xs, rfl, hq, q⟩
  · cases r1
    obtain ⟨its, rv, p, hz⟩ := I1.list hq
    refine wpAny_pyIter_list p.isList ?_
    refine ⟨s1.heap.objs.size, [s1.heap.objs.size], _, _, H1, rfl, I1.kept (t' := s1.toks) fun b o e => Heap.get?_push_of_some _ e, L2.turn_list a _, ⟨_, Heap.get?_push_size _ rfl, rfl, rfl⟩, fun b hb => ?_, q⟩
    have e : b = s1.heap.objs.size := by simpa using hb
    subst e
    exact I1.fpOk (Nat.le_refl _) (I1.hok.fresh (Nat.le_refl _))
  · cases r1
    obtain ⟨its, rv, p, hz⟩ := I1.tuple hq
    refine wpAny_pyIter_tuple (show s1.heap.IsTuple a its.toArray from p) ?_
    refine ⟨s1.heap.objs.size, [s1.heap.objs.size], _, _, H1, rfl, I1.kept (t' := s1.toks) fun b o e => Heap.get?_push_of_some _ e, L2.turn_tuple a _, ⟨_, Heap.get?_push_size _ rfl, rfl, rfl⟩, fun b hb => ?_, q⟩
    have e : b = s1.heap.objs.size := by simpa using hb
    subst e
    exact I1.fpOk (Nat.le_refl _) (I1.hok.fresh (Nat.le_refl _))
theorem big_eq : BIG = 2 ^ 62 := by decide
theorem Ei.rng1 {tg a : Expr} {g : GA} {p : Pos} (ha : Ea X T .v [a] g) (hg : Gl X "range") (hm : X.mg "range" = none) (hs : starEach [a] X.env = [(false, eval a X.env)] := by rfl) : Ei X T tg (.Call (.Name "range" p) [a] [] pos) (iRng1 g) := by
  intro W tk S t σ H R r q
  refine PI.w (L2.pi_range1 hg hm (wA_pa X [a]) hs) ?_
  refine ha W tk S t σ H _ r (IPost.bindA (κ1 := .v) q fun ds m vs H' S' nx hm' rs rep p' => ?_)
  match ds, p' with
  | [.int j], p' =>
    cases rep with
    | cons a b =>
      cases b
      have e := a.int
      subst e
      have p' : IPost X T W S' t σ H' R (if -BIG ≤ j ∧ j < BIG then .ok (rng 0 j.toNat) m else .bad) := p'
      by_cases h : -BIG ≤ j ∧ j < BIG
      · rw [if_pos h] at p'
        rw [big_eq] at h
        exact ⟨j, rfl, h.1, h.2, p' _ H' S' (Nxt.refl _ _) hm' rs yl_rng⟩
      · rw [if_neg h] at p'; exact p'.elim
theorem Ei.rng2 {tg a b : Expr} {g : GA} {p : Pos} (ha : Ea X T .v [a, b] g) (hg : Gl X "range") (hm : X.mg "range" = none) (hs : starEach [a, b] X.env = [(false, eval a X.env), (false, eval b X.env)] := by rfl) (hs2 : starEach [b] X.env = [(false, eval b X.env)] := by rfl) :
    Ei X T tg (.Call (.Name "range" p) [a, b] [] pos) (iRng2 g) := by
  intro W tk S t σ H R r q
  refine PI.w (L2.pi_range2 hg hm (wA_pa X [a, b]) hs hs2) ?_
  refine ha W tk S t σ H _ r (IPost.bindA (κ1 := .v) q fun ds m vs H' S' nx hm' rs rep p' => ?_)
  match ds, p' with
  | [.int i, .int j], p' =>
    cases rep with
    | cons a b =>
      cases b with
      | cons b c =>
        cases c
        have e := a.int
        have e2 := b.int
        subst e e2
        have p' : IPost X T W S' t σ H' R (if (-BIG ≤ i ∧ i < BIG) ∧ -BIG ≤ j ∧ j < BIG then .ok (rng i (j - i).toNat) m else .bad) := p'
        by_cases h : (-BIG ≤ i ∧ i < BIG) ∧ -BIG ≤ j ∧ j < BIG
        · rw [if_pos h] at p'
          rw [big_eq] at h
          exact ⟨i, j, rfl, ⟨h.1.1, h.1.2, h.2.1, h.2.2⟩, p' _ H' S' (Nxt.refl _ _) hm' rs yl_rng⟩
        · rw [if_neg h] at p'; exact p'.elim
end
end TL
set_option Elab.async false
set_option linter.all false
set_option maxRecDepth 100000
set_option maxHeartbeats 2000000
/-! TLg: for, while, list comprehensions. -/
namespace TL
open PySem PySem.Spec
open PyProof.Rows hiding St
open L2 (V HO Hp Cx Inv VK TE TS TI TG TGs TT It Ends SqL SqT upd upd_same upd_ne ne_of ne_of_none Rd Mut EP AP SP PE PA PG PGs PI PIE PW PT PTs PS PSs PT TP WX Takes RelV Vals Key kV Vis Loc Gl FnOk Sp Binds Room XK BlkOk)
section
variable {X : Cx} {T : Tab} {κ κ1 κ2 : Kd} {W : WX} {S S' : Sx} {t : Fr} {σ : L2.St} {H H' : Hp} {Q Q1 : VK} {pos : Pos}
theorem SPost.bindI {o : Out (List D)} {f : List D → Store → SOut} {E : Ends} {R : It → Hp → Prop} (h : SPost X T W S H E (ofL o t f))
    (k : ∀ ds m J H' S', Nxt S H S' H' → S'.mu = m → RS T S' t σ H' → Yl T S'.io H' J ds → SPost X T W S' H' E (f ds m) → R J H') : IPost X T W S t σ H R o := by
  cases o with
  | ok d m => exact fun J H' S' nx hm rs y => k d m J H' S' nx hm rs y (SPost.shift nx.s h)
  | exc c fs m => exact fun dx H' S' nx hm rs x => h dx S' σ H' nx.s hm rs x
  | bad => exact h
theorem RS.newheap (r : RS T S t σ H) (h : ∀ q o, H q = some o → H' q = some o) : RS T S t σ H' := r.grow h
theorem Es.forS {tg iter : Expr} {body : List Stmt} {gi : GI} {g : Tg} {gb : GS} (hi : Ei X T tg iter gi) (hg : PG X tg (tgOf T.K g)) (hb : Ess X T body gb) (hp : PassesOwn (model X.prog X.w) X.A X.env X.xe) (hc : X.calm = true)
    (hs : ∀ x, foldedSetIterable iter X.env x = pure x := by intro _; rfl) : Es X T (.For tg iter body [] pos) (sFor gi g gb) := by
  intro W tk S t σ H E r p
  refine PS.w (L2.ps_for hp hc (wI_pi X tg iter) hg (wSs_pss X body) hs) ?_
  refine hi W tk S t σ H _ r (SPost.bindI p fun ds m J H1 S1 nx hm rs y p' => ?_)
  -- between the turns
  refine ⟨fun i n σ' H' => n = ds.length - i ∧ i ≤ ds.length ∧ ∃ t' S', NxtS S1 H1 S' H' ∧ RS T S' t' σ' H' ∧ SPost X T W S' H' E (forM g gb (ds.drop i) t' S'.mu), ⟨ds.length, by simp, Nat.zero_le _, t, S1, NxtS.refl _ _, rs, by rw [hm]; exact p'⟩, ?_⟩
  rintro i n σ2 H2 ⟨rfl, hi, t2, S2, nx2, rs2, p2⟩
  obtain ⟨yi, ye⟩ := y H2 nx2.kp
  by_cases hlt : i < ds.length
  · have ed : ds[i]? = some ds[i] := List.getElem?_eq_getElem hlt
    obtain ⟨go, yd⟩ := yi i _ ed
    refine .inr ⟨go, fun σ' H' => ∃ t' S', NxtS S1 H1 S' H' ∧ RS T S' t' σ' H' ∧ SPost X T W S' H' E (forM g gb (ds.drop (i + 1)) t' S'.mu), fun σ' H' q => ⟨ds.length - (i + 1), by omega, rfl, hlt, q⟩, fun x H3 yx => ?_⟩
    obtain ⟨gr, rep⟩ := yd x H3 yx
    have rs3 := rs2.grow gr
    have k3 : Keep H2 H3 := ⟨fun b xs e => gr _ _ e, fun b o u e => gr _ _ e⟩
    have nx3 : NxtS S2 H2 S2 H3 := ⟨rfl, rfl, List.prefix_refl _, k3⟩
    rw [List.drop_eq_getElem_cons hlt] at p2
    unfold forM at p2
    cases eb : g.bind ds[i] t2 with
    | none => rw [eb] at p2; exact p2.elim
    | some t3 =>
      rw [eb] at p2
      refine tg_ok rs3 eb (rep.mono (Keep.refl _) nx2.io) fun σ4 rs4 _ => ?_
      have nx4 : NxtS S2 H2 { S2 with ps := setPs g.ix S2.ps } H3 := ⟨rfl, rfl, List.prefix_refl _, k3⟩
      refine hb W tk { S2 with ps := setPs g.ix S2.ps } t3 σ4 H3 _ rs4 ?_
      have p3 := SPost.shift nx4 p2
      have p3 : SPost X T W { S2 with ps := setPs g.ix S2.ps } H3 E (match gb t3 S2.mu with
        | .next t' m' => forM g gb (ds.drop (i + 1)) t' m'
        | .cont t' m' => forM g gb (ds.drop (i + 1)) t' m'
        | .brk t' m' => .next t' m'
        | .ret f d m' => .ret f d m'
        | .exc c fs t' m' => .exc c fs t' m'
        | .bad => .bad) := p3
      show SPost X T W _ H3 _ (gb t3 S2.mu)
      cases q : gb t3 S2.mu with
      | next t' m' =>
        rw [q] at p3
        exact fun S' σ' H' n' hm' rs' => ⟨t', S', nx2.trans (nx4.trans n'), rs', by rw [hm']; exact SPost.shift n' p3⟩
      | cont t' m' =>
        rw [q] at p3
        exact fun S' σ' H' n' hm' rs' => ⟨t', S', nx2.trans (nx4.trans n'), rs', by rw [hm']; exact SPost.shift n' p3⟩
      | brk t' m' => rw [q] at p3; exact p3
      | ret f d m' => rw [q] at p3; exact p3
      | exc c fs t' m' => rw [q] at p3; exact p3
      | bad => rw [q] at p3; exact p3
  · have e : i = ds.length := by omega
    subst e
    rw [List.drop_length] at p2
    exact .inl ⟨ye, p2 S2 σ2 H2 (NxtS.refl _ _) rfl rs2⟩
theorem Es.whS {c : Expr} {body : List Stmt} {gc : GB} {gb : GS} {fuel : Nat} (hc : Et X T c gc) (hb : Ess X T body gb) (hp : PassesOwn (model X.prog X.w) X.A X.env X.xe) : Es X T (.While c body [] pos) (sWhile fuel gc gb) := by
  intro W tk S t σ H E r p
  refine PS.w (L2.ps_while hp (wT_pt X c) (wSs_pss X body)) ?_
  refine ⟨fun n σ' H' => ∃ t' S', NxtS S H S' H' ∧ RS T S' t' σ' H' ∧ SPost X T W S' H' E (whM gc gb n t' S'.mu), ⟨fuel, t, S, NxtS.refl _ _, r, p⟩, ?_⟩
  rintro n σ2 H2 ⟨t2, S2, nx2, rs2, p2⟩
  cases n with
  | zero => exact p2.elim
  | succ n =>
    unfold whM at p2
    refine hc W tk S2 t2 σ2 H2 _ rs2 (SPost.bindB p2 fun k m H3 S3 nx3 hm3 rs3 p3 => ?_)
    cases k with
    | false => rw [if_neg Bool.false_ne_true] at p3 ⊢; exact p3 S3 σ2 H3 (NxtS.refl _ _) hm3 rs3
    | true =>
      rw [if_pos rfl] at p3 ⊢
      refine ⟨fun σ' H' => ∃ t' S', NxtS S H S' H' ∧ RS T S' t' σ' H' ∧ SPost X T W S' H' E (whM gc gb n t' S'.mu), fun σ' H' q => ⟨n, Nat.lt_succ_self n, q⟩, ?_⟩
      refine hb W tk S3 t2 σ2 H3 _ rs3 ?_
      rw [hm3]
      have n23 : NxtS S H S3 H3 := nx2.trans nx3.s
      show SPost X T W S3 H3 _ (gb t2 m)
      cases q : gb t2 m with
      | next t' m' =>
        rw [q] at p3
        exact fun S' σ' H' n' hm' rs' => ⟨t', S', n23.trans n', rs', by rw [hm']; exact SPost.shift n' p3⟩
      | cont t' m' =>
        rw [q] at p3
        exact fun S' σ' H' n' hm' rs' => ⟨t', S', n23.trans n', rs', by rw [hm']; exact SPost.shift n' p3⟩
      | brk t' m' => rw [q] at p3; exact p3
      | ret f d m' => rw [q] at p3; exact p3
      | exc c fs t' m' => rw [q] at p3; exact p3
      | bad => rw [q] at p3; exact p3
end
end TL
set_option Elab.async false
set_option linter.all false
set_option maxRecDepth 100000
set_option maxHeartbeats 2000000
/-! TLh: list comprehensions; a def by its body. -/
namespace TL
open PySem PySem.Spec
open PyProof.Rows hiding St
open L2 (V HO Hp Cx Inv VK TE TS TI TG TGs TT It Ends SqL SqT upd upd_same upd_ne ne_of ne_of_none Rd Mut EP AP SP PE PA PG PGs PI PIE PW PT PTs PS PSs PT TP WX Takes RelV Vals Key kV Vis Loc Gl FnOk Sp Binds Room XK BlkOk)
section
variable {X : Cx} {T : Tab} {κ κ1 κ2 : Kd} {W : WX} {S S' : Sx} {t : Fr} {σ : L2.St} {H H' : Hp} {Q Q1 : VK} {pos : Pos}
theorem setPs_id : ∀ {l : List Nat} {ps : List (Option Addr)}, (∀ i ∈ l, ∀ p, ps[i]? ≠ some (some p)) → setPs l ps = ps
  | [], _, _ => rfl
  | i :: is, ps, h => by
    have e : ps.set i none = ps := by
      refine List.ext_getElem? fun k => ?_
      by_cases hk : i = k
      · subst hk
        rw [List.getElem?_set]
        by_cases hl : i < ps.length
        · have q := h i List.mem_cons_self
          cases e : ps[i]? with
          | none => rw [List.getElem?_eq_none_iff] at e; omega
          | some o =>
            cases o with
            | none => simp [hl]
            | some p => exact absurd e (q p)
        · rw [if_pos rfl, if_neg hl, List.getElem?_eq_none (Nat.le_of_not_lt hl)]
      · rw [List.getElem?_set_ne hk]
    show setPs is (ps.set i none) = ps
    rw [e]
    exact setPs_id fun j hj => h j (List.mem_cons_of_mem _ hj)
theorem noOwn_ps (r : RS T S t σ H) {vs : List Nat} (h : noOwn t vs = true) : ∀ i ∈ vs, ∀ p, S.ps[i]? ≠ some (some p) := fun i hi p e => by
  have hl : i < σ.length := by rw [← r.l2]; exact (List.getElem?_eq_some_iff.mp e).1
  have hl2 : i < t.length := by rw [r.l1]; exact hl
  have z := r.sl i t[i] σ[i] (some p) (List.getElem?_eq_getElem hl2) (List.getElem?_eq_getElem hl) e
  have q := List.all_eq_true.mp h i hi
  rw [List.getElem?_eq_getElem hl2] at q
  generalize t[i] = s at z q
  cases s with
  | no => cases z
  | val d => cases z.1
  | own d => cases q
theorem RS.rewipe {vs : List Nat} (r : RS T S t σ H) (h : ∀ i ∈ vs, ∀ p, S.ps[i]? ≠ some (some p)) : RS T S (wipeF t vs) (L2.wipe σ vs) H := by
  refine ⟨r.g, by rw [wipeF_length, L2.wipe_length]; exact r.l1, by rw [L2.wipe_length]; exact r.l2, fun i s v p e1 e2 e3 => ?_⟩
  rw [wipeF_at] at e1
  rw [wipe_at] at e2
  by_cases hm : i ∈ vs
  · rw [if_pos hm] at e1 e2
    cases h1 : t[i]? with
    | none => rw [h1] at e1; cases e1
    | some s' =>
      rw [h1] at e1
      cases e1
      cases p with
      | none => rfl
      | some p => exact absurd e3 (h i hm p)
  · rw [if_neg hm] at e1 e2
    exact r.sl i s v p e1 e2 e3
/-- back out of the block -/
theorem RS.unwipe {vs : List Nat} {S' : Sx} {H' : Hp} (r0 : RS T S t σ H) (h : ∀ i ∈ vs, ∀ p, S.ps[i]? ≠ some (some p)) (nx : Nxt S H S' H') (r : RS T S' (wipeF t vs) (L2.wipe σ vs) H') : RS T S' t σ H' := by
  refine ⟨r.g, r0.l1, by rw [nx.ps]; exact r0.l2, fun i s v p e1 e2 e3 => ?_⟩
  by_cases hm : i ∈ vs
  · rw [nx.ps] at e3
    have x := r0.sl i s v p e1 e2 e3
    cases s with
    | no => exact x
    | val d => obtain ⟨a, y, b, c⟩ := x; exact ⟨a, y, b, c.mono nx.kp nx.io⟩
    | own d =>
      obtain ⟨a, b, c, d⟩ := x
      rw [c] at e3
      exact absurd e3 (h i hm a)
  · refine r.sl i s v p ?_ ?_ e3
    · rw [wipeF_at, if_neg hm]; exact e1
    · rw [wipe_at, if_neg hm]; exact e2
theorem wipe_idem (σ : L2.St) (vs : List Nat) : L2.wipe (L2.wipe σ vs) vs = L2.wipe σ vs := by
  refine List.ext_getElem? fun k => ?_
  rw [wipe_at, wipe_at]
  by_cases h : k ∈ vs
  · rw [if_pos h, if_pos h, Option.map_map]; rfl
  · rw [if_neg h, if_neg h]
theorem wipeF_idem (t : Fr) (vs : List Nat) : wipeF (wipeF t vs) vs = wipeF t vs := by
  refine List.ext_getElem? fun k => ?_
  rw [wipeF_at, wipeF_at]
  by_cases h : k ∈ vs
  · rw [if_pos h, if_pos h, Option.map_map]; rfl
  · rw [if_neg h, if_neg h]
abbrev Sx.guard (S : Sx) (D : Addr) (o : HO) : Sx := { S with H0 := upd S.H0 D o }
theorem RS.guard {D : Addr} {o : HO} (r : RS T S t σ H) (hD : H D = some o) (hi : D ∉ S.io) (hp : some D ∉ S.ps) : RS T (S.guard D o) t σ H := by
  refine ⟨⟨fun q u e n => ?_, r.g.pre, fun p hm => ?_, fun p hm => ?_, r.g.len, r.g.cell, r.g.nd, r.g.apart, r.g.psnd⟩, r.l1, r.l2, r.sl⟩
  · by_cases hq : q = D
    · subst hq
      have e : upd S.H0 q o q = some u := e
      rw [upd_same] at e; cases e; exact hD
    · have e : upd S.H0 D o q = some u := e
      rw [upd_ne hq] at e; exact r.g.same q u e n
  · rcases r.g.new p hm with z | z
    · exact .inl z
    · refine .inr ?_
      show upd S.H0 D o p = none
      rw [upd_ne (fun e => hi (by rw [← e]; exact hm))]; exact z
  · show upd S.H0 D o p = none
    rw [upd_ne (fun e => hp (by rw [← e]; exact hm))]; exact r.g.own p hm
theorem RS.unguard {D : Addr} {o : HO} {S' : Sx} {H' : Hp} (nx : Nxt (S.guard D o) H S' H') (r : RS T S' t σ H') (h0 : S.H0 D = none) (hi : D ∉ S.io) (pre : S.i0 <+: S.io) :
    RS T { S' with H0 := S.H0 } t σ H' ∧ H' D = some o ∧ Nxt S H { S' with H0 := S.H0 } H' ∧ D ∉ S'.io := by
  have eH : S'.H0 = upd S.H0 D o := nx.h0
  have e0 : S'.i0 = S.i0 := nx.i0
  have ni : D ∉ S'.i0 := by rw [e0]; exact fun hm => hi (pre.subset hm)
  have nio : D ∉ S'.io := fun hm => by
    rcases r.g.new D hm with z | z
    · exact ni z
    · rw [eH, upd_same] at z; cases z
  have down : ∀ p, S'.H0 p = none → S.H0 p = none := fun p e => by
    rw [eH] at e
    by_cases hp : p = D
    · rw [hp, upd_same] at e; cases e
    · rw [upd_ne hp] at e; exact e
  refine ⟨⟨⟨fun q u e n => ?_, r.g.pre, fun p hm => ?_, fun p hm => down p (r.g.own p hm), r.g.len, r.g.cell, r.g.nd, r.g.apart, r.g.psnd⟩, r.l1, r.l2, r.sl⟩, ?_, ⟨rfl, nx.i0, nx.io, nx.ps, nx.kp⟩, nio⟩
  · refine r.g.same q u ?_ n
    rw [eH, upd_ne (ne_of_none e h0)]; exact e
  · rcases r.g.new p hm with z | z
    · exact .inl z
    · exact .inr (down p z)
  · exact r.g.same D o (by rw [eH]; exact upd_same) ni
theorem takes_no {X : Cx} : Takes X (fun _ _ _ _ => False) := L2.takes0
/-- the tests of a clause -/
def Ets (X : Cx) (T : Tab) (es : List Expr) (g : GB) : Prop :=
  ∀ (W : WX), Takes X W → ∀ (S : Sx) (t : Fr) (σ : L2.St) (H : Hp) (Q : Bool → Hp → Prop), RS T S t σ H → BPost X T W S t σ H Q (g t S.mu) → ∀ (pins : List (Addr × Obj)) (s : Shared), Inv X pins σ H s →
    wpAny (model X.prog X.w) X.A (forIn es true fun c r => if r = true then do let ok ← PySem.isTrue c X.env (eval c X.env); pure (ForInStep.yield ok) else pure (ForInStep.yield r)) (TP X pins σ Q) X.xe s
theorem Ets.nil : Ets X T [] tYes := fun W tk S t σ H Q r p pins s I => L2.pts_nil.run pins s σ H Q I (p H S (Nxt.refl _ _) rfl r)
theorem Ets.one {c : Expr} {g : GB} (h : Et X T c g) : Ets X T [c] g := fun W tk S t σ H Q r p pins s I => (L2.pts_one (wT_pt X c)).run pins s σ H Q I (h W tk S t σ H Q r p)
theorem bool_or (b : Bool) : b = true ∨ b = false := by cases b; exact .inr rfl; exact .inl rfl
section
variable {elt tg iter : Expr} {ifs : List Expr} {scope : Scope} {own : List (Str × Nat)} {gi : GI} {g : Tg} {gc : GB} {ge : GE}
/-- the readings of a block's tests, of its element: in every block -/
abbrev rdT (X : Cx) (scope : Scope) (ifs : List Expr) : TT := fun σ H Q => ∀ (s : Shared) (H0 : Hp) (C : Addr) (cl : List (Str × Addr)) (fp : List Addr) (pins : List (Addr × Obj)) (s' : Shared), Inv (X.blk s H0 scope (compEnvC scope cl C X.env) fp) pins σ H s' →
        wpAny (model X.prog X.w) X.A (forIn ifs true fun c r => if r = true then do let ok ← PySem.isTrue c (compEnvC scope cl C X.env) (eval c (compEnvC scope cl C X.env)); pure (ForInStep.yield ok) else pure (ForInStep.yield r)) (TP (X.blk s H0 scope (compEnvC scope cl C X.env) fp) pins σ Q) (fun _ _ => False) s'
abbrev rdE (X : Cx) (scope : Scope) (elt : Expr) : TE := fun σ H Q => ∀ (s : Shared) (H0 : Hp) (C : Addr) (cl : List (Str × Addr)) (fp : List Addr), wE (X.blk s H0 scope (compEnvC scope cl C X.env) fp) elt σ H Q
/-- a comprehension's reading -/
theorem lc_read (hi : Ei X T tg iter gi) (hv : ∀ i ∈ g.ix, i ∈ own.map (·.2))
    (ht : ∀ (s : Shared) (H : Hp) (C : Addr) (cl : List (Str × Addr)) (fp : List Addr), Ets (X.blk s H scope (compEnvC scope cl C X.env) fp) T ifs gc)
    (he : ∀ (s : Shared) (H : Hp) (C : Addr) (cl : List (Str × Addr)) (fp : List Addr), Ev (X.blk s H scope (compEnvC scope cl C X.env) fp) T .t elt ge)
    (tk : Takes X W) (r : RS T S t σ H) (p : EPost X T .n W S t σ H Q (gLc (own.map (·.2)) gi g gc ge t S.mu)) :
    L2.tLc (wI X tg iter) (tgOf T.K g) (rdT X scope ifs) (rdE X scope elt) (own.map (·.2)) σ H Q := by
  generalize hvs : own.map (·.2) = vs at p hv
  unfold gLc at p
  by_cases hno : noOwn t vs = true
  rotate_left
  · rw [if_neg hno] at p; exact p.elim
  rw [if_pos hno] at p
  have hps := noOwn_ps r hno
  refine hi W tk S t σ H _ r ?_
  cases ei : gi t S.mu with
  | bad => rw [ei] at p; exact p.elim
  | exc c fs m => rw [ei] at p; exact p
  | ok ds m =>
    rw [ei] at p
    have p : EPost X T .n W S t σ H Q ((lcM g gc ge (wipeF t vs) ds [] m).bind fun xs m => .ok (.lst xs) m) := p
    intro J H1 S1 nx1 hm1 rs1 y D hD
    obtain ⟨hD0, hDi, hDp⟩ := rs1.free hD
    have hps1 : ∀ i ∈ vs, ∀ p, S1.ps[i]? ≠ some (some p) := by rw [nx1.ps]; exact hps
    -- between the turns
    let Pv : Nat → Hp → Prop := fun i H' => ∃ S' acc dacc, Nxt S1 H1 S' H' ∧ RS T S' (wipeF t vs) (L2.wipe σ vs) H' ∧ H' D = some (.lst acc) ∧ Reps T S'.io H' acc dacc ∧ D ∉ S'.io ∧
      EPost X T .n W S' t σ H' Q ((lcM g gc ge (wipeF t vs) (ds.drop i) dacc S'.mu).bind fun xs m => .ok (.lst xs) m)
    have hP0 : Pv 0 (upd H1 D (.lst [])) := by
      have k : Keep H1 (upd H1 D (.lst [])) := Keep.upd (.inl hD)
      have nx : Nxt S1 H1 S1 (upd H1 D (.lst [])) := ⟨rfl, rfl, List.prefix_refl _, rfl, k⟩
      exact ⟨S1, [], [], nx, (rs1.grow (grow_upd hD)).rewipe hps1, upd_same, .nil, hDi, by rw [hm1]; exact EPost.shift (nx1.trans nx) p⟩
    refine ⟨fun i n H' => n = ds.length - i ∧ i ≤ ds.length ∧ Pv i H', ⟨ds.length, by simp, Nat.zero_le _, hP0⟩, ?_⟩
    rintro i n H2 ⟨rfl, hil, S2, acc, dacc, nx2, rs2, hDa, racc, hDi2, p2⟩
    obtain ⟨yi, ye⟩ := y H2 nx2.kp
    have hDp2 : some D ∉ S2.ps := by rw [nx2.ps]; exact hDp
    have h20 : S2.H0 D = none := by rw [nx2.h0]; exact hD0
    by_cases hlt : i < ds.length
    · have ed : ds[i]? = some ds[i] := List.getElem?_eq_getElem hlt
      obtain ⟨go, yd⟩ := yi i _ ed
      refine .inr ⟨go, Pv (i + 1), fun H' q => ⟨ds.length - (i + 1), by omega, rfl, hlt, q⟩, fun x H3 yx => ?_⟩
      obtain ⟨gr, rep⟩ := yd x H3 yx
      have rs3 := rs2.grow gr
      have k3 : Keep H2 H3 := ⟨fun b xs e => gr _ _ e, fun b o u e => gr _ _ e⟩
      have nx3 : Nxt S2 H2 S2 H3 := ⟨rfl, rfl, List.prefix_refl _, rfl, k3⟩
      have hD3 : H3 D = some (.lst acc) := gr _ _ hDa
      rw [List.drop_eq_getElem_cons hlt] at p2
      unfold lcM at p2
      cases eb : g.bind ds[i] (wipeF t vs) with
      | none => rw [eb] at p2; exact p2.elim
      | some t4 =>
        rw [eb] at p2
        refine tg_ok rs3 eb (rep.mono (Keep.refl _) nx2.io) fun σ4 rs4 hw => ?_
        obtain ⟨hw1, hw2⟩ := hw vs hv
        rw [wipe_idem] at hw1
        rw [wipeF_idem] at hw2
        refine ⟨hw1, ?_⟩
        have hps2 : ∀ i ∈ vs, ∀ p, S2.ps[i]? ≠ some (some p) := by rw [nx2.ps]; exact hps1
        rw [setPs_id fun i hi => hps2 i (hv i hi)] at rs4
        -- the test, with the new list kept
        have rs4g := rs4.guard hD3 hDi2 hDp2
        intro sa Ha Ca cla fpa pinsa sa' Ia
        refine ht sa Ha Ca cla fpa (fun _ _ _ _ => False) takes_no (S2.guard D (.lst acc)) t4 σ4 H3 _ rs4g ?_ pinsa sa' Ia
        show BPost _ T _ _ t4 σ4 H3 _ (gc t4 S2.mu)
        have p2 : EPost X T .n W S2 t σ H2 Q ((match gc t4 S2.mu with
          | .ok true m' => (match ge t4 m' with
            | .ok x m'' => if dacc.length < LIM then lcM g gc ge (wipeF t vs) (ds.drop (i + 1)) (dacc ++ [x]) m'' else .bad
            | _ => .bad)
          | .ok false m' => lcM g gc ge (wipeF t vs) (ds.drop (i + 1)) dacc m'
          | _ => .bad).bind fun xs m => .ok (.lst xs) m) := p2
        cases ec : gc t4 S2.mu with
        | bad => rw [ec] at p2; exact p2.elim
        | exc c fs m' => rw [ec] at p2; exact p2.elim
        | ok b m' =>
          rw [ec] at p2
          intro H5 S5g n5g hm5 rs5g
          obtain ⟨rs5, hD5, nx5, hDi5⟩ := RS.unguard n5g rs5g h20 hDi2 rs2.g.pre
          have nx25 : Nxt S2 H2 { S5g with H0 := S2.H0 } H5 := nx3.trans nx5
          rcases bool_or b with rfl | rfl
          · rw [if_pos rfl]
            intro sb Hb Cb clb fpb
            have hDp5 : some D ∉ S5g.ps := by rw [n5g.ps]; exact hDp2
            have rs5g2 := rs5.guard hD5 hDi5 hDp5
            have p2 : EPost X T .n W S2 t σ H2 Q ((match ge t4 m' with
                | .ok x m'' => if dacc.length < LIM then lcM g gc ge (wipeF t vs) (ds.drop (i + 1)) (dacc ++ [x]) m'' else .bad
                | _ => .bad).bind fun xs m => .ok (.lst xs) m) := p2
            refine he sb Hb Cb clb fpb (fun _ _ _ _ => False) takes_no _ t4 σ4 H5 _ rs5g2 ?_
            have eg' : ge t4 S5g.mu = ge t4 m' := by rw [hm5]
            show EPost _ T _ _ _ t4 σ4 H5 _ (ge t4 S5g.mu)
            rw [eg']
            cases eg : ge t4 m' with
            | bad => rw [eg] at p2; exact p2.elim
            | exc c fs m'' => rw [eg] at p2; exact p2.elim
            | ok dx m'' =>
              rw [eg] at p2
              have p2 : EPost X T .n W S2 t σ H2 Q ((if dacc.length < LIM then lcM g gc ge (wipeF t vs) (ds.drop (i + 1)) (dacc ++ [dx]) m'' else .bad).bind fun xs m => .ok (.lst xs) m) := p2
              by_cases hlen : dacc.length < LIM
              rotate_left
              · rw [if_neg hlen] at p2; exact p2.elim
              rw [if_pos hlen] at p2
              intro yv H6 S6g n6g hm6 rs6g rep6
              obtain ⟨rs6, hD6, nx6, hDi6⟩ := RS.unguard (S := { S5g with H0 := S2.H0 }) n6g rs6g h20 hDi5 rs5.g.pre
              have racc6 := racc.mono (nx25.trans nx6).kp (nx25.trans nx6).io
              refine ⟨acc, hD6, by rw [racc6.length, lim_eq]; exact hlen, ?_⟩
              have k7 : Keep H6 (upd H6 D (.lst (acc ++ [yv]))) := Keep.upd (.inr (by rw [hD6]; trivial))
              have hDp6 : some D ∉ S6g.ps := by rw [n6g.ps]; exact hDp5
              have rs7 := (rs6.change (p := D) (o := .lst (acc ++ [yv])) k7 h20 hDi6 hDp6).rewipe (vs := vs) (by
                intro i hi p
                show S6g.ps[i]? ≠ _
                rw [n6g.ps]
                show S5g.ps[i]? ≠ _
                rw [n5g.ps]
                exact hps2 i hi p)
              rw [hw1, hw2] at rs7
              have nx27 : Nxt S2 H2 { S6g with H0 := S2.H0 } (upd H6 D (.lst (acc ++ [yv]))) := (nx25.trans nx6).trans ⟨rfl, rfl, List.prefix_refl _, rfl, k7⟩
              exact ⟨{ S6g with H0 := S2.H0 }, acc ++ [yv], dacc ++ [dx], nx2.trans nx27, rs7, upd_same, (racc6.mono k7 (List.prefix_refl _)).app (.cons (Rep.mono k7 (List.prefix_refl _) rep6) .nil), hDi6, by
                have eg' : lcM g gc ge (wipeF t vs) (ds.drop (i + 1)) (dacc ++ [dx]) S6g.mu = lcM g gc ge (wipeF t vs) (ds.drop (i + 1)) (dacc ++ [dx]) m'' := by rw [hm6]
                show EPost X T .n W _ t σ _ Q ((lcM g gc ge (wipeF t vs) (ds.drop (i + 1)) (dacc ++ [dx]) S6g.mu).bind fun xs m => .ok (.lst xs) m)
                rw [eg']; exact EPost.shift nx27 p2⟩
          · rw [if_neg Bool.false_ne_true]
            have rs7 := rs5.rewipe (vs := vs) (by
                intro i hi p
                show S5g.ps[i]? ≠ _
                rw [n5g.ps]
                exact hps2 i hi p)
            rw [hw1, hw2] at rs7
            exact ⟨{ S5g with H0 := S2.H0 }, acc, dacc, nx2.trans nx25, rs7, hD5, racc.mono nx25.kp nx25.io, hDi5, by
              have eg' : lcM g gc ge (wipeF t vs) (ds.drop (i + 1)) dacc S5g.mu = lcM g gc ge (wipeF t vs) (ds.drop (i + 1)) dacc m' := by rw [hm5]
              show EPost X T .n W _ t σ _ Q ((lcM g gc ge (wipeF t vs) (ds.drop (i + 1)) dacc S5g.mu).bind fun xs m => .ok (.lst xs) m)
              rw [eg']; exact EPost.shift nx25 p2⟩
    · have e : i = ds.length := by omega
      subst e
      rw [List.drop_length] at p2
      have rsb := rs1.unwipe hps1 nx2 rs2
      exact .inl ⟨ye, p2 (.ref D) H2 S2 (Nxt.refl _ _) rfl rsb (.inr ⟨D, rfl, ⟨acc, hDa, racc⟩, h20, hDi2, hDp2⟩)⟩
theorem Ev.lc (hX : X.K = T.K) (hc : X.calm = true) (hN : X.N.Nodup) (hi : Ei X T tg iter gi) (ok : BlkOk X.N X.env.scope scope own) (hv : ∀ i ∈ g.ix, i ∈ own.map (·.2))
    (hg : ∀ (s : Shared) (H : Hp) (C : Addr) (cl : List (Str × Addr)) (fp : List Addr), PG (X.blk s H scope (compEnvC scope cl C X.env) fp) tg (tgOf T.K g))
    (ht : ∀ (s : Shared) (H : Hp) (C : Addr) (cl : List (Str × Addr)) (fp : List Addr), Ets (X.blk s H scope (compEnvC scope cl C X.env) fp) T ifs gc)
    (he : ∀ (s : Shared) (H : Hp) (C : Addr) (cl : List (Str × Addr)) (fp : List Addr), Ev (X.blk s H scope (compEnvC scope cl C X.env) fp) T .t elt ge) (hs : ∀ x, foldedSetIterable iter X.env x = pure x := by intro _; rfl) :
    Ev X T .n (.ListComp elt [⟨tg, iter, ifs, 0⟩] scope pos) (gLc (own.map (·.2)) gi g gc ge) := by
  intro W tk S t σ H Q r p
  exact PE.w (L2.pe_lc hc hN (wI_pi X tg iter) ok hg (fun s H C cl fp => ⟨fun pins s' σ H' Q I h => h s H C cl fp pins s' I⟩) (fun s H C cl fp => ⟨fun pins s' σ H' Q I h => h s H C cl fp pins s' I⟩) hs) (lc_read hi hv ht he tk r p)
end
end
end TL
set_option Elab.async false
set_option linter.all false
set_option maxRecDepth 100000
set_option maxHeartbeats 2000000
/-! TLi: a def by its body; y = [..]; xs.append. -/
namespace TL
open PySem PySem.Spec
open PyProof.Rows hiding St
open L2 (V HO Hp Cx Inv VK TE TS TI TG TGs TT It Ends SqL SqT upd upd_same upd_ne ne_of ne_of_none Rd Mut EP AP SP PE PA PG PGs PI PIE PW PT PTs PS PSs PT TP WX Takes RelV Vals Key kV Vis Loc Gl FnOk Sp Binds Room XK BlkOk FnScope cxOf Fun defBody defScope defArgs)
section
variable {X : Cx} {T : Tab} {κ κ1 κ2 : Kd} {W : WX} {S S' : Sx} {t : Fr} {σ : L2.St} {H H' : Hp} {Q Q1 : VK} {pos : Pos}
theorem rep_none (n : Nat) (i : Nat) (x : Option Addr) (h : (List.replicate n (none : Option Addr))[i]? = some x) : x = none := by
  rw [List.getElem?_replicate] at h
  split at h
  · cases h; rfl
  · cases h
/-- the entry -/
theorem RS.start {io : List Addr} {mu : Store} {vs : List V} {ds : List D} {N : List Str} (st : StOk T io mu H) (r : Reps T io H vs ds) (hl : vs.length ≤ N.length) :
    RS T ⟨H, io, io, mu, List.replicate N.length none⟩ (ds.map .val ++ List.replicate (N.length - ds.length) .no) (L2.start N vs) H := by
  have el := r.length
  refine ⟨⟨fun q o e _ => e, List.prefix_refl _, fun p hp => .inl hp, fun p hp => ?_, st.len, st.cell, st.nd, fun p hp => ?_, fun i j p e => ?_⟩, ?_, ?_, fun i s v p e1 e2 e3 => ?_⟩
  · have := List.eq_of_mem_replicate hp; cases this
  · have := List.eq_of_mem_replicate hp; cases this
  · have := rep_none _ _ _ e; cases this
  · unfold L2.start; simp [el]
  · unfold L2.start; simp; omega
  · have e3 : (List.replicate N.length (none : Option Addr))[i]? = some p := e3
    have ep := rep_none _ _ _ e3
    subst ep
    by_cases hi : i < ds.length
    · have h1 : ((ds.map Slot.val ++ List.replicate (N.length - ds.length) Slot.no))[i]? = (ds.map Slot.val)[i]? := List.getElem?_append_left (by simpa using hi)
      rw [h1, List.getElem?_map] at e1
      have hv : i < vs.length := by rw [el]; exact hi
      have h2 : (L2.start N vs)[i]? = (vs.map some)[i]? := List.getElem?_append_left (by simpa using hv)
      rw [h2, List.getElem?_map] at e2
      cases e : ds[i]? with
      | none => rw [e] at e1; cases e1
      | some d =>
        rw [e] at e1
        cases e1
        obtain ⟨x, e4, rx⟩ := r.get e
        rw [e4] at e2
        cases e2
        exact ⟨rfl, x, rfl, rx⟩
    · have h1 : ((ds.map Slot.val ++ List.replicate (N.length - ds.length) Slot.no))[i]? = (List.replicate (N.length - ds.length) Slot.no)[i - (ds.map Slot.val).length]? := List.getElem?_append_right (by simpa using Nat.le_of_not_lt hi)
      rw [h1, List.getElem?_replicate] at e1
      split at e1
      · cases e1; rfl
      · cases e1
theorem fnM_bad {np n : Nat} {g : GS} : ∀ ds mu, ds.length ≠ np → fnM np n g ds mu = .bad := fun ds mu h => by
  unfold fnM
  rw [if_neg h]
/-- THE RULE for a def that may raise: its body is g -/
theorem fn_ok {P : Program} {w : World} {mg : Str → Option Value} {base : Heap} {x qual : Str} {st : Stmt} {f : Addr} {fd : FuncData} {N ps : List Str} {k : Nat} {g : GS} (lk : ∃ (oc : Value) (od : Option Addr) (dV kV doc pm : Value) (an : Option Addr) (cdv ct : Value) (osl : Array (Option Value)),
      fd = PySem.W.fnOf x qual (defArgs st) (defBody st) (defScope st) dV kV doc pm an cdv ct ∧ T.K.lookup f = some ⟨oc, od, .func fd, osl⟩ ∧ PySem.W.codeIn T.K cdv qual = true) (Sc : FnScope N ps (defScope st)) (hl : ps.length ≤ N.length)
    (hb : ∀ (cdv : Value) (A : Around) (outer : List Env) (s : Shared) (H : Hp) (E : XK), Room k (A.deeper (envOfC qual (defScope st) s.heap.objs.size f cdv)) → A.guards = some [] →
      Ess (cxOf (L2.CX P w) P w T.K mg base N qual (defScope st) f cdv A outer s H E) T (defBody st) g) :
    FnG P w T.K mg base (k + 1) f fd ps (spT T ps.length (fnM ps.length N.length g)) := by
  obtain ⟨oc, od, dV, kV, doc, pm, an, cdv, ct, osl, rfl, lk, hcd⟩ := lk
  refine ⟨fun vs H Q E h => h.choose_spec.choose_spec.choose_spec.1, fun A outer s H args us vs Q E hr hgd e0 hbd rv h => ?_⟩
  have hlen : vs.length = ps.length := h.choose_spec.choose_spec.choose_spec.1
  have stays : ∀ b o, base.get? b = some o → s.heap.get? b = some o := fun b o e => (e0.bs b o e).1
  have KX := e0.mod.kin.keeps stays
  have lim := e0.mod.nolimit.keeps stays
  have loc : ∀ y ∈ ps.zip us, (defScope st).names.lookup y.1 = some .local ∨ ((defScope st).names.lookup y.1 = some .cell ∧ ((cellsFrom (s.heap.objs.size + 1) (defScope st).names []).lookup y.1).isSome = true) := by
    rintro ⟨n, u⟩ hy
    have := Sc.par n (List.of_mem_zip hy).1
    rcases this with q | q
    · exact Or.inl q
    · exact Or.inr ⟨q, PySem.W.cellsFrom_some _ _ _ (.inl q)⟩
  refine codeAny_call_function hr.depth (KX _ _ lk) rfl Sc.co Sc.gen rfl (PySem.W.codeRec_of KX hcd) (hbd _ _ _ _ ?_)
  refine wpAny_newFunctionEnv_cells Sc.kind loc fun env he s1 x1 => ?_
  subst he
  refine ⟨lim.keeps x1.toInCall.keep, codeAny_func ?_⟩
  have I := L2.inv_start (CX := L2.CX P w) (E := E) Sc hr.hd e0 hlen rv x1
  suffices key : wSs (cxOf (L2.CX P w) P w T.K mg base N qual (defScope st) f cdv A outer s H E) (defBody st) { nx := fun _ H' => Q .non H', rt := Q } (L2.start N vs) H by
    refine wpAny_mono (key [] s1 I) (fun fl s' hs => ?_) fun e s' hs => hs
    match fl, hs with
    | .ret u, ⟨v, σ', H', J, r, q⟩ => exact ⟨v, H', J.os, J.bare, J.base, J.hok, r, q⟩
    | .next, ⟨σ', H', J, q⟩ => exact ⟨V.non, H', J.os, J.bare, J.base, J.hok, rfl, q⟩
    | .brk, ⟨_, _, _, q⟩ => exact q.elim
    | .cont, ⟨_, _, _, q⟩ => exact q.elim
  obtain ⟨ds, io, mu, hn, rep, sto, p⟩ := h
  have hd : ds.length = ps.length := by rw [← rep.length]; exact hn
  unfold fnM at p
  rw [if_pos hd] at p
  refine hb cdv A outer s H E (hr.deeper _) hgd (fun cls d _ H' => E cls d H') (L2.takes_of rfl rfl rfl rfl) ⟨H, io, io, mu, List.replicate N.length none⟩ _ _ H _ (RS.start (N := N) sto rep (by rw [hn]; exact hl)) ?_
  show SPost _ T _ _ H _ (g _ mu)
  cases q : g (ds.map .val ++ List.replicate (N.length - ds.length) .no) mu with
  | ret fr d m =>
    rw [q] at p
    intro v S' H' nx hm rg rp
    have e0 : S'.H0 = H := nx.h0
    have ei : S'.i0 = io := nx.i0
    refine p v H' S'.io nx.io (fun p hp => ?_) (by rw [← hm]; exact rg.st) (fun q o e n => ?_) ?_
    · have := rg.new p hp
      rw [ei, e0] at this
      exact this
    · exact rg.same q o (by rw [e0]; exact e) (by rw [ei]; exact n)
    · cases fr with
      | false => rw [if_neg Bool.false_ne_true] at rp ⊢; exact rp
      | true =>
        rw [if_pos rfl] at rp ⊢
        rcases rp with rp | ⟨a, e1, ow, h0, hi, _⟩
        · exact .inl rp
        · exact .inr ⟨a, e1, ow, by rw [← e0]; exact h0, hi⟩
  | next t' m =>
    rw [q] at p
    intro S' σ' H' nx hm rs
    have e0 : S'.H0 = H := nx.h0
    have ei : S'.i0 = io := nx.i0
    refine p .non H' S'.io nx.io (fun p hp => ?_) (by rw [← hm]; exact rs.g.st) (fun q o e n => ?_) (by rw [if_neg Bool.false_ne_true]; exact .non)
    · have := rs.g.new p hp
      rw [ei, e0] at this
      exact this
    · exact rs.g.same q o (by rw [e0]; exact e) (by rw [ei]; exact n)
  | exc c fs t' m =>
    rw [q] at p
    intro dx S' σ' H' nx hm rs ex
    have e0 : S'.H0 = H := nx.h0
    have ei : S'.i0 = io := nx.i0
    refine p dx H' S'.io nx.io (fun p hp => ?_) (by rw [← hm]; exact rs.g.st) (fun q o e n => ?_) ex
    · have := rs.g.new p hp
      rw [ei, e0] at this
      exact this
    · exact rs.g.same q o (by rw [e0]; exact e) (by rw [ei]; exact n)
  | brk t' m => rw [q] at p; exact p.elim
  | cont t' m => rw [q] at p; exact p.elim
  | bad => rw [q] at p; exact p.elim
/-- y = [..] on one line -/
theorem Es.newLc {i : Nat} {y : Str} {py spos : Pos} {elt tg iter : Expr} {ifs : List Expr} {scope : Scope} {own : List (Str × Nat)} {gi : GI} {g : Tg} {gc : GB} {ge : GE} (hX : X.K = T.K) (hc : X.calm = true) (hN : X.N.Nodup) (hy : X.N[i]? = some y) (hyl : X.env.scope.names.lookup y = some .local)
    (hsw : swapsWith (.ListComp elt [⟨tg, iter, ifs, 0⟩] scope pos) (some (.Name y py)) spos.line X.env = pure true) (hi : Ei X T tg iter gi) (ok : BlkOk X.N X.env.scope scope own) (hv : ∀ i ∈ g.ix, i ∈ own.map (·.2))
    (hg : ∀ (s : Shared) (H : Hp) (C : Addr) (cl : List (Str × Addr)) (fp : List Addr), PG (X.blk s H scope (compEnvC scope cl C X.env) fp) tg (tgOf T.K g))
    (ht : ∀ (s : Shared) (H : Hp) (C : Addr) (cl : List (Str × Addr)) (fp : List Addr), Ets (X.blk s H scope (compEnvC scope cl C X.env) fp) T ifs gc)
    (he : ∀ (s : Shared) (H : Hp) (C : Addr) (cl : List (Str × Addr)) (fp : List Addr), Ev (X.blk s H scope (compEnvC scope cl C X.env) fp) T .t elt ge) (hs : ∀ x, foldedSetIterable iter X.env x = pure x := by intro _; rfl) :
    Es X T (.Assign [.Name y py] (.ListComp elt [⟨tg, iter, ifs, 0⟩] scope pos) spos) (sNew i (gLc (own.map (·.2)) gi g gc ge)) := by
  intro W tk S t σ H E r p
  refine PS.w (L2.ps_setLc (tt := rdT X scope ifs) (te := rdE X scope elt) hc hN hy hyl hsw (wI_pi X tg iter) ok hg (fun s H C cl fp => ⟨fun pins s' σ H' Q I h => h s H C cl fp pins s' I⟩) (fun s H C cl fp => ⟨fun pins s' σ H' Q I h => h s H C cl fp pins s' I⟩) hs) ?_
  refine lc_read (Q := fun x H1 => L2.gName i x σ H1 E.nx) hi hv ht he tk r ?_
  refine SPost.bind (κ1 := .n) p fun d m v H' S' nx hm rs rep p' => ?_
  rcases rep with ⟨rep, nt⟩ | ⟨a, rfl, ow, h0, hi, hp⟩
  · have e : slotOf d = .val d := by cases d <;> first | rfl | exact absurd trivial nt
    rw [e] at p'
    exact p' { S' with ps := S'.ps.set i none } _ H' NxtS.ps hm (rs.setVal rep)
  · have e : slotOf d = .own d := by
      have th := ow.thing
      cases d <;> first | rfl | exact th.elim
    rw [e] at p'
    exact p' { S' with ps := S'.ps.set i (some a) } _ H' NxtS.ps hm (rs.setOwn h0 hi hp ow)
/-- an own thing is changed in place -/
theorem RS.write {i : Nat} {a : Addr} {d d' : D} {o : HO} (r : RS T S t σ H) (h : t[i]? = some (.own d)) (hp : S.ps[i]? = some (some a)) (hs : σ[i]? = some (some (.ref a))) (ow : OwnAt T S.io H a d) (ow' : OwnAt T S.io (upd H a o) a d') :
    RS T S (t.set i (.own d')) σ (upd H a o) ∧ Keep H (upd H a o) := by
  obtain ⟨u, eu, mu⟩ := ow.mut
  have k : Keep H (upd H a o) := Keep.upd (.inr (by rw [eu]; exact mu))
  have hm : some a ∈ S.ps := List.mem_of_getElem? hp
  have keepO : ∀ {b d}, b ≠ a → OwnAt T S.io H b d → OwnAt T S.io (upd H a o) b d := fun {b d} ne x => x.mono k (List.prefix_refl _) (upd_ne ne)
  refine ⟨⟨⟨fun q o z n => ?_, r.g.pre, r.g.new, r.g.own, r.g.len, fun j b c e1 e2 => ?_, r.g.nd, r.g.apart, r.g.psnd⟩, by simp [r.l1], r.l2, fun j s v p e1 e2 e3 => ?_⟩, k⟩
  · rw [upd_ne (ne_of_none z (r.g.own a hm))]; exact r.g.same q o z n
  · exact keepO (fun z => r.g.apart a hm (z ▸ List.mem_of_getElem? e1)) (r.g.cell j b c e1 e2)
  · by_cases hj : i = j
    · subst hj
      have h1 : i < t.length := (List.getElem?_eq_some_iff.mp h).1
      rw [List.getElem?_set_self h1] at e1
      rw [hs] at e2
      rw [hp] at e3
      cases e1; cases e3; cases e2
      exact ⟨a, rfl, rfl, ow'⟩
    · rw [List.getElem?_set_ne hj] at e1
      have x := r.sl j s v p e1 e2 e3
      cases s with
      | no => exact x
      | val d => obtain ⟨a1, y, b, c⟩ := x; exact ⟨a1, y, b, c.mono k (List.prefix_refl _)⟩
      | own d2 =>
        obtain ⟨b, f, g, x⟩ := x
        refine ⟨b, f, g, keepO (fun z => ?_) x⟩
        rw [z] at g
        rw [g] at e3
        exact hj (r.g.psnd i j a hp e3)
/-- the own thing at i -/
theorem RS.ownAt {i : Nat} {d : D} (r : RS T S t σ H) (h : t[i]? = some (.own d)) : ∃ a, S.ps[i]? = some (some a) ∧ σ[i]? = some (some (.ref a)) ∧ OwnAt T S.io H a d := by
  have hi : i < σ.length := by rw [← r.l1]; exact (List.getElem?_eq_some_iff.mp h).1
  have hp : i < S.ps.length := by rw [r.l2]; exact hi
  obtain ⟨a, e1, e2, ow⟩ := r.sl i _ σ[i] S.ps[i] h (List.getElem?_eq_getElem hi) (List.getElem?_eq_getElem hp)
  exact ⟨a, by rw [List.getElem?_eq_getElem hp, e2], by rw [List.getElem?_eq_getElem hi, e1], ow⟩
/-- x.append(e), x a name with an own list -/
theorem Es.app {i : Nat} {x : Str} {e : Expr} {g : GE} {p1 apos cpos : Pos} (he : Ev X T .t e g) (hN : X.N[i]? = some x) (hv : Vis X.env.scope x) (hd : (x == ("__debug__" : Str)) = false := by decide) (hcd : (x == ("__classdict__" : Str)) = false := by decide)
    (hs : swapsWith (.Call (.Attribute (.Name x p1) "append" apos) [e] [] cpos) none pos.line X.env = pure false := by rfl)
    (hbase : attributeBase (.Name x p1) "append" X.env (eval (.Name x p1) X.env) = eval (.Name x p1) X.env := by rfl)
    (hfew : ((backTo cpos (starEach [e] X.env)).all (fun x => !x.1) && (backToKw cpos (keywordEach [] X.env)).all (fun x => x.1.isSome)
      && decide ([e].length + ([] : List Keyword).length + (if ([] : List Keyword).isEmpty then 0 else 1) < 30)) = true := by rfl)
    (hline : (apos.endLine == cpos.line) = true := by rfl) (hst : starEach [e] X.env = (false, eval e X.env) :: starEach [] X.env := by rfl) (hplain : (backTo cpos (starEach [] X.env)).any (·.1) = false := by rfl) :
    Es X T (.Expr (.Call (.Attribute (.Name x p1) "append" apos) [e] [] cpos) pos) (sApp i g) := by
  intro W tk S t σ H E r p
  refine PS.w (L2.ps_expr (L2.pe_bm PySem.F.plainAttrs_list PySem.F.slot_list_append PySem.F.type_list_append L2.mt_append (L2.pe_var (i := i) hN hv hd hcd) (L2.pa_cons (wE_pe X e) L2.pa_nil hst) hbase hfew hline hst hplain) hs) ?_
  unfold sApp at p
  cases q : t[i]? with
  | none => rw [q] at p; exact p.elim
  | some s =>
    rw [q] at p
    match s, p, q with
    | .own (.lst xs), p, q =>
      obtain ⟨a, ep, es, ow⟩ := r.ownAt q
      obtain ⟨vs, eh, rp⟩ := id ow
      refine ⟨.ref a, es, .inl ⟨rfl, _, SqL.of eh⟩, ?_⟩
      refine he W tk S t σ H _ r (SPost.bind (κ1 := .t) p fun d m v H' S' nx hm rs rep p' => ?_)
      obtain ⟨a', ep', es', ow'⟩ := rs.ownAt q
      rw [nx.ps, ep] at ep'
      cases ep'
      obtain ⟨vs', eh', rp'⟩ := id ow'
      by_cases hl : xs.length < LIM
      · rw [if_pos hl] at p'
        refine ⟨a, vs', v, rfl, rfl, eh', by rw [rp'.length, lim_eq]; exact hl, ?_⟩
        have k : Keep H' (upd H' a (.lst (vs' ++ [v]))) := Keep.upd (.inr (by rw [eh']; trivial))
        obtain ⟨rs2, k2⟩ := rs.write (d' := .lst (xs ++ [d])) q (by rw [nx.ps]; exact ep) es ow' ⟨vs' ++ [v], upd_same, (rp'.mono k (List.prefix_refl _)).app (.cons (Rep.mono k (List.prefix_refl _) rep) .nil)⟩
        exact p' S' σ _ ⟨rfl, rfl, List.prefix_refl _, k2⟩ hm rs2
      · rw [if_neg hl] at p'; exact p'.elim
end
end TL
set_option Elab.async false
set_option linter.all false
set_option maxRecDepth 100000
set_option maxHeartbeats 2000000
/-! TLz: a law's end. -/
namespace TL
open PySem PySem.Spec
open PyProof.Rows hiding St
open L2 (V HO Hp Cx Inv VK SqL upd upd_same upd_ne RelV Vals Room XK)
/-- the law's call, at the heap behind the top: H holds the script at most -/
theorem law_at {T : Tab} {P : Program} {w : World} {mg mb : Str → Option Value} {k : Nat} {fa a : Addr} {fd : FuncData} {x : Str} {f : DF} {s1 : Shared} {vs : List Value} {ns : List Int} {fr : Bool} {m : Store}
    (KX : T.K.In s1.heap) (hns : s1.heap.Ns mainGlobals mg) (hb : s1.heap.Ns builtinsNs mb) (hbb : ∀ x : Str, x ≠ "__name__" → mb x = bootBuiltins x) (hlim : s1.heap.NoLimit) (hg : s1.gens = #[])
    (ha : s1.heap.get? a = some { cls := .type "list", data := .seq vs.toArray }) (hr : Room k callerA)
    (F : ∀ base : Heap, T.K.In base → base.Ns mainGlobals mg → FnG P w T.K mg base k fa fd [x] (spT T 1 f)) (hbind : ∀ (s : Shared) (u : Value), BindsTo s fd ⟨[u], []⟩ [(x, u)])
    (hf : f [.lst (ns.map .int)] [] = .ok (fr, .bl true) m)
    (H : Hp) (hz : Fz T.K H a (ns.map V.int)) (hok : L2.HOk P w H s1.heap) (hA : ∀ b u, H b = some u → b = a ∧ T.K.lookup a = none ∧ ∃ o xs, u = .frz o (.lst xs)) :
    codeAny (model P w) callerA (.call (.ref fa) ⟨[.ref a], []⟩) (fun r s' => r = .ok (.ret (.bool true)) ∧ OldK s1.heap s'.heap ∧ s'.os = s1.os ∧ AllBare s'.gens) s1 := by
  have free : ∀ b, b ≠ a → H b = none := fun b hb => by
    cases q : H b with
    | none => rfl
    | some u => exact absurd (hA b u q).1 hb
  have isD : ∀ {b : Addr} {mm : Str → Option Value}, s1.heap.Ns b mm → (L2.hidT s1.heap H).Ns b mm := by
    rintro b mm ⟨o, es, ep, e, d, r⟩
    refine ⟨o, es, ep, L2.hidT_get e (free b ?_), d, r⟩
    rintro rfl
    rw [ha] at e
    cases e
    cases d
  have hKb : T.K.In (L2.hidT s1.heap H) := by
    intro b o e
    refine L2.hidT_get (KX b o e) ?_
    cases q : H b with
    | none => rfl
    | some u =>
      obtain ⟨rfl, e2, _⟩ := hA b u q
      rw [e2] at e; cases e
  have e0 : L2.Env0 P w T.K mg (L2.hidT s1.heap H) callerA [] s1 H :=
    ⟨rfl, ⟨hKb, isD hns, ⟨mb, isD hb, hbb⟩, hlim.elim fun mc h => ⟨mc, isD h.1, h.2⟩⟩, fun b o e => L2.of_hidT e, Nat.le_of_eq (L2.hidT_size _ _), trivial, fun b hb => (List.not_mem_nil hb).elim, hok, AllBare.of_eq hg⟩
  have reps : ∀ l : List Int, Reps T [] H (l.map V.int) (l.map D.int) := fun l => by
    induction l with
    | nil => exact .nil
    | cons i l ih => exact .cons (.int i) ih
  have sp : spT T 1 f [.ref a] H (fun v _ => v = .bl true) fun _ _ _ => False := by
    refine ⟨[.lst (ns.map .int)], [], [], rfl, .cons (.lst hz (reps ns)) .nil, ⟨rfl, fun k p c e => by simp at e, List.nodup_nil⟩, ?_⟩
    rw [hf]
    intro v H' io' _ _ _ _ q
    cases fr with
    | false => rw [if_neg Bool.false_ne_true] at q; exact rep_bl q
    | true =>
      rw [if_pos rfl] at q
      rcases q with q | ⟨p, rfl, ow, _⟩
      · exact rep_bl q.1
      · exact ow.elim
  refine codeAny_mono ((F _ hKb (isD hns)).run callerA [] s1 H ⟨[.ref a], []⟩ [.ref a] [.ref a] _ _ hr rfl e0 (hbind s1 _) (.cons rfl .nil) sp) fun r s' h => ?_
  match r, h with
  | .error e, h => obtain ⟨_, _, _, _, _, _, _, _, _, _, _, _, z⟩ := h; exact z.elim
  | .ok (.ret u), h =>
    obtain ⟨v, H', os, bare, un, hok', r', q⟩ := h
    have q' : v = .bl true := q
    subst q'
    cases r'
    refine ⟨rfl, OldK.of_keep fun b o e => ?_, os, bare⟩
    cases q : H b with
    | none => exact un.keep b o e q (fun z => by cases z) (fun z => by cases z)
    | some u =>
      obtain ⟨_, _, ob, xs, rfl⟩ := hA b u q
      have e1 := (hok b _ q).1
      have e2 := (hok' b _ (un.frzs b ob _ q)).1
      rw [e] at e1
      cases e1
      exact e2
theorem law_end {l : PySem.W.OpenLaw} {n k : Nat} {q : Program} {loose : List Str} {XP : (Str → Option Value) → Heap → Prop} {YP : World → Heap → Prop} {d : DefRec} {x : Str}
    (hn : l.most = some n) (hn2 : n ≤ sizeLine) (hdf : d.params.defaults = []) (hr : Room k callerA)
    (F : ∀ (w : World) (mg : Str → Option Value) (fa : Addr) (h : Heap), YP w h → h.Ns mainGlobals mg → mg d.name = some (.ref fa) →
      ∃ (T : Tab) (fd : FuncData) (f : DF), T.K.In h ∧ (∀ (s : Shared) (u : Value), BindsTo s fd ⟨[u], []⟩ [(x, u)]) ∧
        (∀ (ns : List Int), ns.length ≤ n → ∃ fr m, f [.lst (ns.map .int)] [] = .ok (fr, .bl true) m) ∧
        ∀ base : Heap, T.K.In base → base.Ns mainGlobals mg → FnG l.prog w T.K mg base k fa fd [x] (spT T 1 f)) :
    PySem.W.WalkO q loose XP YP l.row.toRowW d [] (fun f vs => PySem.call f vs) := by
  refine Att.attach_call hn hdf fun w s0 s1 mg mb fa o pm cd doc a vs ns G Y ho hd hcd hmg hobj hints hlen hg => ?_
  obtain ⟨T, fd, f, KX, hb, hf, hF⟩ := F w mg fa _ Y G.T.g hmg
  obtain ⟨fr, m, hf⟩ := hf ns hlen
  have rv := L2.vals_ints hints
  have hsz : (ns.map V.int).length ≤ sizeLine := by rw [List.length_map]; exact Nat.le_trans hlen hn2
  have go := law_at KX G.T.g G.T.b G.T.builtins G.T.nolimit hg hobj hr hF hb hf
  cases hk : T.K.lookup a with
  | some ob =>
    have e := KX a ob hk
    rw [hobj] at e
    cases e
    exact go (fun _ => none) (.inr ⟨_, vs.toArray, _, hk, rfl, rfl, rfl, by rw [List.size_toArray, ← rv.length]; exact hsz, by simpa using rv⟩) (fun b u z => by cases z) fun b u z => by cases z
  | none =>
    have at_a : upd (fun _ => none) a (.frz { cls := .type "list", data := .seq vs.toArray } (.lst (ns.map V.int))) a = some _ := upd_same
    refine go (upd (fun _ => none) a (.frz { cls := .type "list", data := .seq vs.toArray } (.lst (ns.map V.int)))) (.inl ⟨_, at_a⟩) (fun b u z => ?_) fun b u z => ?_
    all_goals
      by_cases hb : b = a
      · subst hb
        rw [upd_same] at z
        cases z
        first
          | exact ⟨hobj, hsz, vs, _, rv, hobj⟩
          | exact ⟨rfl, hk, _, _, rfl⟩
      · rw [upd_ne hb] at z; cases z
end TL
/-! TLp: what operators and built-ins do on trees. -/
namespace TL
mutual
def deq : D → D → Bool
  | .non, .non => true
  | .bl a, .bl b => a == b
  | .bl a, .int j => decide ((if a then (1 : Int) else 0) = j)
  | .int i, .bl b => decide (i = (if b then (1 : Int) else 0))
  | .int i, .int j => decide (i = j)
  | .str x, .str y => decide (x = y)
  | .lst xs, .lst ys => deqs xs ys
  | .tup xs, .tup ys => deqs xs ys
  | _, _ => false
def deqs : List D → List D → Bool
  | [], [] => true
  | x :: xs, y :: ys => deq x y && deqs xs ys
  | _, _ => false
end
/-- data without dicts, instances, handles; its texts are texts -/
def textOk (x : Tx) : Bool := x.all fun c => decide (c < 1114112)
mutual
def okD : D → Bool
  | .non => true
  | .bl _ => true
  | .int _ => true
  | .str x => textOk x
  | .lst xs => okDs xs
  | .tup xs => okDs xs
  | _ => false
def okDs : List D → Bool
  | [] => true
  | x :: xs => okD x && okDs xs
end
mutual
def dep : D → Nat
  | .lst xs => deps xs + 1
  | .tup xs => deps xs + 1
  | _ => 0
def deps : List D → Nat
  | [] => 0
  | x :: xs => max (dep x) (deps xs)
end
def fine (d : D) : Bool := okD d && decide (dep d ≤ 60)
def scalD : D → D → Bool
  | .non, .non => true | .non, .int _ => true | .int _, .non => true | .non, .bl _ => true | .bl _, .non => true | .non, .str _ => true | .str _, .non => true
  | .int _, .int _ => true | .bl _, .bl _ => true | .str _, .str _ => true
  | .int _, .str _ => true | .str _, .int _ => true | .bl _, .str _ => true | .str _, .bl _ => true
  | _, _ => false
def dEq (a b : D) : Option D := if scalD a b = true then some (.bl (deq a b)) else if fine a = true ∧ fine b = true then some (.bl (deq a b)) else none
def dNe (a b : D) : Option D := if scalD a b = true then some (.bl (!deq a b)) else if fine a = true ∧ fine b = true then some (.bl (!deq a b)) else none
def dAdd : D → D → Option D
  | .int a, .int b => some (.int (a + b))
  | .str a, .str b => if a.length + b.length ≤ LIM then some (.str (a ++ b)) else none
  | .lst a, .lst b => if a.length + b.length ≤ LIM then some (.lst (a ++ b)) else none
  | _, _ => none
def dSub : D → D → Option D
  | .int a, .int b => some (.int (a - b))
  | _, _ => none
def P64 : Int := 18446744073709551616
def dMul : D → D → Option D
  | .int a, .int b => if (-P64 < a ∧ a < P64) ∨ (-P64 < b ∧ b < P64) then some (.int (a * b)) else none
  | _, _ => none
def dMod : D → D → Option D
  | .int a, .int b => if 0 < b then some (.int (a % b)) else none
  | _, _ => none
def dDiv : D → D → Option D
  | .int a, .int b => if 0 < b ∧ b < 1073741824 then some (.int (a / b)) else none
  | _, _ => none
def dPow : D → D → Option D
  | .int a, .int b => if 0 ≤ b ∧ b ≤ 1000000 ∧ a.natAbs < 2 ^ 64 then some (.int (a ^ b.toNat)) else none
  | _, _ => none
def dLt : D → D → Option D
  | .int a, .int b => some (.bl (decide (a < b)))
  | _, _ => none
def dLe : D → D → Option D
  | .int a, .int b => some (.bl (decide (a ≤ b)))
  | _, _ => none
def dGt : D → D → Option D
  | .int a, .int b => some (.bl (decide (b < a)))
  | _, _ => none
def dGe : D → D → Option D
  | .int a, .int b => some (.bl (decide (b ≤ a)))
  | _, _ => none
def flatD : D → Bool
  | .non => true
  | .bl _ => true
  | .int _ => true
  | .str _ => true
  | _ => false
def inD (x : D) (ys : List D) : Bool := ys.any fun y => deq y x
def dIn (x y : D) : Option D :=
  match x, y with
  | .str [c], .str z => some (.bl (decide (c ∈ z)))
  | x, .lst ys => if flatD x = true ∧ ys.all flatD = true then some (.bl (inD x ys)) else if fine x = true ∧ fine (.lst ys) = true then some (.bl (inD x ys)) else none
  | x, .tup ys => if flatD x = true ∧ ys.all flatD = true then some (.bl (inD x ys)) else none
  | _, _ => none
def notD : Option D → Option D
  | some (.bl k) => some (.bl (!k))
  | _ => none
def dNotIn (x y : D) : Option D := notD (dIn x y)
def isN : D → Bool
  | .non => true
  | _ => false
/-- x is None -/
def dIsN : D → D → Option D
  | x, .non => some (.bl (isN x))
  | _, _ => none
def dIsNotN : D → D → Option D
  | x, .non => some (.bl (!isN x))
  | _, _ => none
/-- an index of any sign -/
def ixOf (n : Nat) (i : Int) : Option Nat := if 0 ≤ i then (if i < n then some i.toNat else none) else if -(n : Int) ≤ i then some (i + n).toNat else none
def atD {α : Type} (xs : List α) (i : Int) : Option α := (ixOf xs.length i).bind fun j => xs[j]?
/-- o[i]; a handle stands for what its cell holds -/
def dIx (m : Store) : D → D → Option D
  | .lst xs, .int i => atD xs i
  | .tup xs, .int i => atD xs i
  | .str x, .int i => if x.length ≤ LIM then (atD x i).map fun c => .str [c] else none
  | .obj k, .int i => match m[k]? with
    | some (.lst xs) => atD xs i
    | _ => none
  | _, _ => none
def gIx (a b : GE) : GE := fun t m => (a t m).bind fun x m => (b t m).bind fun y m => lift (dIx m x y) m
def sIx (n d : Nat) : Option Int → Nat
  | none => d
  | some v => if v < 0 then (v + (n : Int)).toNat else min v.toNat n
def cutD {α : Type} (xs : List α) (lo hi : Option Int) : List α := (xs.drop (sIx xs.length 0 lo)).take (sIx xs.length xs.length hi - sIx xs.length 0 lo)
def dSl : D → Option Int → Option Int → Option D
  | .str x, lo, hi => if x.length ≤ LIM then some (.str (cutD x lo hi)) else none
  | .lst xs, lo, hi => some (.lst (cutD xs lo hi))
  | _, _, _ => none
/-- a part of a slice -/
abbrev GO := Fr → M (Option Int)
def oNo : GO := fun _ => ret none
def oAt (a : GE) : GO := fun t m => (a t m).bind fun x m => match x with
  | .int i => .ok (some i) m
  | _ => .bad
def gSl (a : GE) (l h : GO) : GE := fun t m => (a t m).bind fun x m => (l t m).bind fun lo m => (h t m).bind fun hi m => lift (dSl x lo hi) m
def dLen : List D → Option D
  | [.str x] => if x.length ≤ LIM then some (.int x.length) else none
  | [.lst xs] => some (.int xs.length)
  | [.tup xs] => some (.int xs.length)
  | _ => none
def dInt : List D → Option D
  | [.int i] => some (.int i)
  | [.bl b] => some (.int (if b then 1 else 0))
  | _ => none
/-! built-in functions on lists of flat things -/
def blsOf : List D → Option (List Bool)
  | [] => some []
  | .bl b :: ds => (blsOf ds).map (b :: ·)
  | _ :: _ => none
def dAny : List D → Option D
  | [.lst ds] => (blsOf ds).map fun bs => .bl (bs.any id)
  | _ => none
def dAll : List D → Option D
  | [.lst ds] => (blsOf ds).map fun bs => .bl (bs.all id)
  | _ => none
def intsOf : List D → Option (List Int)
  | [] => some []
  | .int b :: ds => (intsOf ds).map (b :: ·)
  | _ :: _ => none
def dSum : List D → Option D
  | [.lst ds] => (intsOf ds).map fun bs => .int bs.sum
  | _ => none
/-- list(x) -/
def dList : List D → Option D
  | [.lst ds] => some (.lst ds)
  | [.tup ds] => some (.lst ds)
  | [.str x] => if x.length ≤ LIM then some (.lst (x.map fun c => .str [c])) else none
  | _ => none
def dTuple : List D → Option D
  | [.lst ds] => some (.tup ds)
  | [.tup ds] => some (.tup ds)
  | _ => none
def joinT (a : Tx) : List Tx → Tx
  | [] => []
  | [x] => x
  | x :: y :: r => x ++ (a ++ joinT a (y :: r))
/-- texts alone -/
def strsOf : List D → Option (List Tx)
  | [] => some []
  | .str x :: ds => (strsOf ds).map (x :: ·)
  | _ :: _ => none
/-- a text's method -/
def gMs (f : Tx → List D → Option D) (a : GE) (r : GA) : GE := fun t m => (a t m).bind fun x m => match x with
  | .str s => (r t m).bind fun ys m => lift (f s ys) m
  | _ => .bad
def dJoin (a : Tx) : List D → Option D
  | [.lst ds] => match strsOf ds with
    | some ys => if (ys.map List.length).sum + ys.length * a.length ≤ LIM then some (.str (joinT a ys)) else none
    | none => none
  | _ => none
end TL
/-! TLq: texts in order, each once. -/
namespace TL
def txLe (a b : Tx) : Bool := decide (a ≤ b)
def srtT (xs : List Tx) : List Tx := xs.mergeSort txLe
theorem txLe_trans (a b c : Tx) (h : txLe a b = true) (k : txLe b c = true) : txLe a c = true :=
  decide_eq_true (List.le_trans (of_decide_eq_true h) (of_decide_eq_true k))
theorem txLe_total (a b : Tx) : (txLe a b || txLe b a) = true := by
  rcases Std.le_total (a := a) (b := b) with h | h
  · simp [txLe, h]
  · simp [txLe, h]
theorem srtT_pw (xs : List Tx) : (srtT xs).Pairwise fun a b => txLe a b = true := List.pairwise_mergeSort txLe_trans txLe_total xs
theorem srtT_pm (xs : List Tx) : (srtT xs).Perm xs := List.mergeSort_perm xs txLe
theorem srtT_one {xs ys : List Tx} (p : xs.Perm ys) (h : ys.Pairwise fun a b => txLe a b = true) : srtT xs = ys :=
  List.Perm.eq_of_pairwise (fun _ _ _ _ h1 h2 => List.le_antisymm (of_decide_eq_true h1) (of_decide_eq_true h2)) (srtT_pw xs) h ((srtT_pm xs).trans p)
theorem srtT_perm {xs ys : List Tx} (p : xs.Perm ys) : srtT xs = srtT ys := srtT_one (p.trans (srtT_pm ys).symm) (srtT_pw ys)
def dedT : List Tx → List Tx
  | [] => []
  | x :: xs => if x ∈ dedT xs then dedT xs else x :: dedT xs
theorem mem_dedT {x : Tx} : ∀ {xs : List Tx}, x ∈ dedT xs ↔ x ∈ xs
  | [] => Iff.rfl
  | y :: ys => by
    unfold dedT
    split
    · rename_i h
      rw [List.mem_cons, mem_dedT]
      exact ⟨.inr, fun z => z.elim (fun e => by rw [e]; exact mem_dedT.mp h) id⟩
    · rw [List.mem_cons, List.mem_cons, mem_dedT]
theorem dedT_nd : ∀ xs : List Tx, (dedT xs).Nodup
  | [] => List.nodup_nil
  | y :: ys => by
    unfold dedT
    split
    · exact dedT_nd ys
    · rename_i h
      exact List.nodup_cons.mpr ⟨h, dedT_nd ys⟩
/-- each once, in order -/
def ordT (xs : List Tx) : List Tx := srtT (dedT xs)
def dSortSet : D → Option D
  | .lst ds => (strsOf ds).bind fun xs => if xs.length + 1 < 4096 then some (.lst ((ordT xs).map .str)) else none
  | _ => none
/-- sorted(xs), texts -/
def dSortT : List D → Option D
  | [.lst ds] => (strsOf ds).bind fun xs => some (.lst ((srtT xs).map .str))
  | _ => none
theorem ordT_one {xs ys zs : List Tx} (nd : ys.Nodup) (h : ∀ x, x ∈ ys ↔ x ∈ xs) (p : ys.Perm zs) (o : zs.Pairwise fun a b => txLe a b = true) : ordT xs = zs := by
  refine srtT_one (List.Perm.trans ?_ p) o
  refine (List.perm_ext_iff_of_nodup ?_ nd).mpr fun x => ?_
  · exact dedT_nd xs
  · rw [h x, mem_dedT]
end TL
set_option Elab.async false
set_option linter.all false
set_option maxRecDepth 100000
set_option maxHeartbeats 2000000
/-! TLo: operators and built-ins on trees are what the model does. -/
namespace TL
open PySem PySem.Spec
open PyProof.Rows hiding St
open L2 (V HO Hp Cx Inv VK TE TS Ends SqL SqT upd upd_same upd_ne ne_of ne_of_none Rd Mut EP SP PE PS PSs PT TP WX Takes RelV Vals Key kV Vis Loc Gl Dp DpAll)
section
variable {X : Cx} {T : Tab} {κ κ1 κ2 : Kd} {W : WX} {S S' : Sx} {t : Fr} {σ : L2.St} {H H' : Hp} {Q Q1 : VK} {pos : Pos}
/-- a scalar result, at once -/
theorem fin0 {v : V} {d : D} (k : ∀ v H' S', Nxt S H S' H' → S'.mu = S.mu → RS T S' t σ H' → RepK T κ S' t H' v d → Q v H') (r : RS T S t σ H) (h : Rep T S.io H v d) (nt : ¬ Thing d := by exact fun z => z) : Q v H :=
  k v H S (Nxt.refl _ _) rfl r (h.k nt)
theorem finN {a : Addr} {o : HO} {d : D} (k : ∀ v H' S', Nxt S H S' H' → S'.mu = S.mu → RS T S' t σ H' → RepK T .n S' t H' v d → Q v H') (r : RS T S t σ H) (h : H a = none) (ow : OwnAt T S.io (upd H a o) a d) : Q (.ref a) (upd H a o) := by
  obtain ⟨rs, nx, f⟩ := r.newly h ow
  exact k _ _ S nx rfl rs f
/-- a list looked at -/
theorem RepK.sq (r : RS T S t σ H) {x : V} {ds : List D} (h : RepK T .v S t H x (.lst ds)) : ∃ a vs, x = .ref a ∧ SqL T.K H a vs ∧ Reps T S.io H vs ds := by
  rcases h with h | ⟨i, p, rfl, hp, e, _⟩
  · cases h with
    | lst h rr => exact ⟨_, _, rfl, h.sq, rr⟩
  · obtain ⟨a, e1, e2, vs, hv, rr⟩ := r.ownAt e
    rw [hp] at e1
    cases e1
    exact ⟨_, vs, rfl, SqL.of hv, rr⟩
theorem RepK.tq {x : V} {ds : List D} (h : RepK T .v S t H x (.tup ds)) : ∃ a vs, x = .ref a ∧ SqT T.K H a vs ∧ Reps T S.io H vs ds := by
  have h := h.tree fun z => z
  cases h with
  | tup h2 rr => exact ⟨_, _, rfl, h2, rr⟩
/-! ### numbers, texts -/
theorem Op2.add (hX : X.K = T.K) : Op2 X T .n (binaryOp .Add) dAdd := by
  intro S t σ H x y a b d Q r ra rb e k pins s u w I ru rw
  match a, b, e with
  | .int i, .int j, e =>
    cases e
    have := ra.int; have := rb.int
    subst x y
    exact L2.op_add pins s σ H _ _ u w Q I ru rw ⟨i, j, rfl, rfl, fin0 k r (.int _)⟩
  | .str i, .str j, e =>
    have := ra.str; have := rb.str
    subst x y
    have e : (if i.length + j.length ≤ LIM then some (D.str (i ++ j)) else none) = some d := e
    by_cases h : i.length + j.length ≤ LIM
    · rw [if_pos h] at e
      cases e
      refine L2.op_add_str pins s σ H _ _ u w Q I ru rw ⟨_, _, rfl, rfl, by rw [sT_len, sT_len, lim_eq]; exact h, ?_⟩
      have es : sT i ++ sT j = sT (i ++ j) := by
        show (⟨i.toArray ++ j.toArray⟩ : Str) = ⟨(i ++ j).toArray⟩
        simp
      rw [es]
      exact fin0 k r (Rep.strS _)
    · rw [if_neg h] at e; cases e
  | .lst i, .lst j, e =>
    have e : (if i.length + j.length ≤ LIM then some (D.lst (i ++ j)) else none) = some d := e
    by_cases h : i.length + j.length ≤ LIM
    · rw [if_pos h] at e
      cases e
      obtain ⟨p, vs, rfl, hp, rp⟩ := ra.sq r
      obtain ⟨q, us, rfl, hq, rq⟩ := rb.sq r
      cases ru
      cases rw
      rw [← hX] at hp hq
      obtain ⟨its, r1, ⟨o1, n1, h1, c1, d1, e1⟩, z1⟩ := I.list hp
      obtain ⟨its2, r2, ⟨o2, n2, h2, c2, d2, e2⟩, z2⟩ := I.list hq
      obtain ⟨cl1, dd1, da1, sl1⟩ := o1
      obtain ⟨cl2, dd2, da2, sl2⟩ := o2
      simp only at c1 d1 e1 c2 d2 e2
      subst c1 d1 e1 c2 d2 e2
      have hl : its.length + its2.length ≤ sizeLine := by rw [← r1.length, ← r2.length, rp.length, rq.length, lim_eq]; exact h
      refine concat_meets ⟨_, h1, rfl⟩ ⟨_, h2, rfl⟩ noFill_list_add seq_list_add PySem.F.slot_list_add PySem.F.entry_list_add (PySem.F.args_list_add_2 _ _)
        (list_addW p q its.toArray its2.toArray n1 n2 none none sl1 sl2 (by simpa using hl)) ⟨h1, h2, ?_⟩
      rw [show its.toArray ++ its2.toArray = (its ++ its2).toArray by simp]
      have hf := I.fresh
      exact ⟨.ref _, _, I.lnew (t' := s.toks) (r1.append r2) (by rw [List.length_append, r1.length, r2.length]; exact hl), rfl,
        finN k r hf ⟨vs ++ us, upd_same, (rp.app rq).mono (Keep.upd (.inl hf)) (List.prefix_refl _)⟩⟩
    · rw [if_neg h] at e; cases e
theorem Op2.int2 {F : Value → Value → Sem Value} {f : D → D → Option D} {C : Int → Int → Prop} {g : Int → Int → V} {h : Int → Int → D} (ho : L2.OpR X F (L2.rI C g)) (hf : ∀ a b d, f a b = some d → ∃ i j, a = .int i ∧ b = .int j ∧ C i j ∧ d = h i j)
    (hr : ∀ (io : List Addr) (H : Hp) i j, Rep T io H (g i j) (h i j) ∧ ¬ Thing (h i j)) : Op2 X T κ F f := by
  refine Op2.of ho fun S t σ H x y a b d Q r ra rb e k => ?_
  obtain ⟨i, j, rfl, rfl, c, rfl⟩ := hf a b d e
  exact ⟨i, j, ra.int, rb.int, c, k _ H S (Nxt.refl _ _) rfl r ((hr _ _ i j).1.k (hr S.io H i j).2)⟩
theorem rI_of {g : Int → Int → V} {F : Value → Value → Sem Value} (ho : L2.OpR X F (L2.rI0 g)) : L2.OpR X F (L2.rI (fun _ _ => True) g) := fun pins s σ H x y u w Q I ru rw h => by
  obtain ⟨i, j, e1, e2, _, q⟩ := h
  exact ho pins s σ H x y u w Q I ru rw ⟨i, j, e1, e2, q⟩
theorem Op2.sub : Op2 X T κ (binaryOp .Sub) dSub := Op2.int2 (rI_of L2.op_sub) (fun a b d e => by
  unfold dSub at e; split at e <;> cases e; exact ⟨_, _, rfl, rfl, trivial, rfl⟩) fun io H i j => ⟨.int _, fun z => z⟩
theorem Op2.mul : Op2 X T κ (binaryOp .Mult) dMul := Op2.int2 L2.op_mul (fun a b d e => by
  unfold dMul at e
  split at e
  · split at e
    · rename_i h
      cases e
      exact ⟨_, _, rfl, rfl, h, rfl⟩
    · cases e
  · cases e) fun io H i j => ⟨.int _, fun z => z⟩
theorem Op2.mod : Op2 X T κ (binaryOp .Mod) dMod := Op2.int2 L2.op_mod (fun a b d e => by
  unfold dMod at e
  split at e
  · split at e
    · rename_i h
      cases e
      exact ⟨_, _, rfl, rfl, h, rfl⟩
    · cases e
  · cases e) fun io H i j => ⟨.int _, fun z => z⟩
theorem Op2.div : Op2 X T κ (binaryOp .FloorDiv) dDiv := Op2.int2 L2.op_fdiv (fun a b d e => by
  unfold dDiv at e
  split at e
  · split at e
    · rename_i h
      cases e
      exact ⟨_, _, rfl, rfl, h, rfl⟩
    · cases e
  · cases e) fun io H i j => ⟨.int _, fun z => z⟩
theorem Op2.pow : Op2 X T κ (binaryOp .Pow) dPow := Op2.int2 L2.op_pow (fun a b d e => by
  unfold dPow at e
  split at e
  · split at e
    · rename_i h
      cases e
      exact ⟨_, _, rfl, rfl, h, rfl⟩
    · cases e
  · cases e) fun io H i j => ⟨.int _, fun z => z⟩
theorem Op2.lt : Op2 X T κ (compareOp .Lt) dLt := Op2.int2 (rI_of L2.op_lt) (fun a b d e => by
  unfold dLt at e; split at e <;> cases e; exact ⟨_, _, rfl, rfl, trivial, rfl⟩) fun io H i j => ⟨.bl _, fun z => z⟩
theorem Op2.le : Op2 X T κ (compareOp .LtE) dLe := Op2.int2 (rI_of L2.op_le) (fun a b d e => by
  unfold dLe at e; split at e <;> cases e; exact ⟨_, _, rfl, rfl, trivial, rfl⟩) fun io H i j => ⟨.bl _, fun z => z⟩
theorem Op2.gt : Op2 X T κ (compareOp .Gt) dGt := Op2.int2 (rI_of L2.op_gt) (fun a b d e => by
  unfold dGt at e; split at e <;> cases e; exact ⟨_, _, rfl, rfl, trivial, rfl⟩) fun io H i j => ⟨.bl _, fun z => z⟩
theorem Op2.ge : Op2 X T κ (compareOp .GtE) dGe := Op2.int2 (rI_of L2.op_ge) (fun a b d e => by
  unfold dGe at e; split at e <;> cases e; exact ⟨_, _, rfl, rfl, trivial, rfl⟩) fun io H i j => ⟨.bl _, fun z => z⟩
/-! ### data -/
mutual
def toPy : D → PyData
  | .non => .none
  | .bl b => .bool b
  | .int i => .int i
  | .str x => .str (sT x)
  | .lst xs => .list (toPys xs)
  | .tup xs => .tuple (toPys xs)
  | _ => .none
def toPys : List D → List PyData
  | [] => []
  | x :: xs => toPy x :: toPys xs
end
mutual
theorem rep_dp {io : List Addr} : ∀ {v : V} {d : D}, Rep T io H v d → okD d = true → Dp T.K H v (toPy d)
  | _, _, .non, _ => by unfold toPy; exact .non
  | _, _, .bl b, _ => by unfold toPy; exact .bl b
  | _, _, .int i, _ => by unfold toPy; exact .int i
  | _, _, .str x, _ => by unfold toPy; rw [tl_sT]; exact .str x
  | _, _, .tup h r, e => by unfold toPy; exact .tup h (reps_dp r (by unfold okD at e; exact e))
  | _, _, .lst h r, e => by unfold toPy; exact .lst h.sq (reps_dp r (by unfold okD at e; exact e))
  | _, _, .dct _ _, e => by unfold okD at e; cases e
  | _, _, .dcT _ _, e => by unfold okD at e; cases e
  | _, _, .ins _ _ _ _, e => by unfold okD at e; cases e
  | _, _, .obj _, e => by unfold okD at e; cases e
theorem reps_dp {io : List Addr} : ∀ {v : List V} {d : List D}, Reps T io H v d → okDs d = true → DpAll T.K H v (toPys d)
  | _, _, .nil, _ => by unfold toPys; exact .nil
  | _, _, .cons a b, e => by
    unfold okDs at e
    have e := Bool.and_eq_true_iff.mp e
    unfold toPys
    exact .cons (rep_dp a e.1) (reps_dp b e.2)
end
theorem RepK.dp (r : RS T S t σ H) {x : V} {d : D} (h : RepK T .v S t H x d) (e : okD d = true) : Dp T.K H x (toPy d) := by
  rcases h with h | ⟨i, p, rfl, hp, eo, th⟩
  · exact rep_dp h e
  · obtain ⟨a, e1, e2, ow⟩ := r.ownAt eo
    rw [hp] at e1
    cases e1
    cases d with
    | lst ds =>
      obtain ⟨vs, hv, rr⟩ := ow
      unfold okD at e
      unfold toPy
      exact .lst (SqL.of hv) (reps_dp rr e)
    | dct ds => unfold okD at e; cases e
    | ins c ds => unfold okD at e; cases e
    | _ => exact th.elim
mutual
theorem eqv_deq : ∀ {a b : D}, okD a = true → okD b = true → PyData.eqv (toPy a) (toPy b) = deq a b
  | .non, b, _, h => by cases b <;> first | (unfold okD at h; cases h; done) | (simp only [toPy, PyData.eqv, deq])
  | .bl a, b, _, h => by cases b <;> first | (unfold okD at h; cases h; done) | (simp [toPy, PyData.eqv, deq, Bool.beq_eq_decide_eq])
  | .int a, b, _, h => by cases b <;> first | (unfold okD at h; cases h; done) | (simp [toPy, PyData.eqv, deq, Bool.beq_eq_decide_eq])
  | .str a, b, _, h => by
    cases b with
    | str y =>
      simp only [toPy, PyData.eqv, deq]
      by_cases e : a = y
      · subst e; simp
      · rw [decide_eq_false e]
        refine beq_eq_false_iff_ne.mpr fun z => e ?_
        have := congrArg (fun s : Str => s.cps.toList) z
        simpa [sT] using this
    | _ => first | (unfold okD at h; cases h; done) | (simp only [toPy, PyData.eqv, deq])
  | .lst xs, b, ha, h => by
    cases b with
    | lst ys =>
      simp only [toPy, PyData.eqv, deq]
      exact eqvs_deqs (by unfold okD at ha; exact ha) (by unfold okD at h; exact h)
    | _ => first | (unfold okD at h; cases h; done) | (simp only [toPy, PyData.eqv, deq])
  | .tup xs, b, ha, h => by
    cases b with
    | tup ys =>
      simp only [toPy, PyData.eqv, deq]
      exact eqvs_deqs (by unfold okD at ha; exact ha) (by unfold okD at h; exact h)
    | _ => first | (unfold okD at h; cases h; done) | (simp only [toPy, PyData.eqv, deq])
  | .dct _, _, h, _ => by unfold okD at h; cases h
  | .ins _ _, _, h, _ => by unfold okD at h; cases h
  | .obj _, _, h, _ => by unfold okD at h; cases h
theorem eqvs_deqs : ∀ {a b : List D}, okDs a = true → okDs b = true → PyData.eqvAll (toPys a) (toPys b) = deqs a b
  | [], [], _, _ => by simp only [toPys, PyData.eqvAll, deqs]
  | [], y :: ys, _, _ => by simp only [toPys, PyData.eqvAll, deqs]
  | x :: xs, [], _, _ => by simp only [toPys, PyData.eqvAll, deqs]
  | x :: xs, y :: ys, ha, hb => by
    unfold okDs at ha hb
    have ha := Bool.and_eq_true_iff.mp ha
    have hb := Bool.and_eq_true_iff.mp hb
    simp only [toPys, PyData.eqvAll, deqs]
    rw [eqv_deq ha.1 hb.1, eqvs_deqs ha.2 hb.2]
end
mutual
theorem lay_ok : ∀ {d : D}, okD d = true → (toPy d).canLay0 = true
  | .non, _ => by simp only [toPy, PyData.canLay0]
  | .bl _, _ => by simp only [toPy, PyData.canLay0]
  | .int _, _ => by simp only [toPy, PyData.canLay0]
  | .str x, h => by
    unfold okD textOk at h
    simp only [toPy, PyData.canLay0, PyData.strOk, sT]
    simpa using h
  | .lst xs, h => by
    simp only [toPy, PyData.canLay0]
    exact lays_ok (by unfold okD at h; exact h)
  | .tup xs, h => by
    simp only [toPy, PyData.canLay0]
    exact lays_ok (by unfold okD at h; exact h)
  | .dct _, h => by unfold okD at h; cases h
  | .ins _ _, h => by unfold okD at h; cases h
  | .obj _, h => by unfold okD at h; cases h
theorem lays_ok : ∀ {d : List D}, okDs d = true → PyData.canLayAll0 (toPys d) = true
  | [], _ => by simp only [toPys, PyData.canLayAll0]
  | x :: xs, h => by
    unfold okDs at h
    have h := Bool.and_eq_true_iff.mp h
    simp only [toPys, PyData.canLayAll0, lay_ok h.1, lays_ok h.2, Bool.and_self]
end
mutual
theorem dep_py : ∀ d : D, (toPy d).depth = dep d
  | .non => by simp only [toPy, PyData.depth, dep]
  | .bl _ => by simp only [toPy, PyData.depth, dep]
  | .int _ => by simp only [toPy, PyData.depth, dep]
  | .str _ => by simp only [toPy, PyData.depth, dep]
  | .lst xs => by simp only [toPy, PyData.depth, dep, deps_py xs]
  | .tup xs => by simp only [toPy, PyData.depth, dep, deps_py xs]
  | .dct _ => by simp only [toPy, PyData.depth, dep]
  | .ins _ _ => by simp only [toPy, PyData.depth, dep]
  | .obj _ => by simp only [toPy, PyData.depth, dep]
theorem deps_py : ∀ d : List D, PyData.depthAll (toPys d) = deps d
  | [] => by simp only [toPys, PyData.depthAll, deps]
  | x :: xs => by simp only [toPys, PyData.depthAll, deps, dep_py x, deps_py xs]
end
theorem fine_sh {d : D} (h : fine d = true) : okD d = true ∧ SeqAt.shaped (toPy d) = true := by
  unfold fine at h
  have h := Bool.and_eq_true_iff.mp h
  refine ⟨h.1, ?_⟩
  unfold SeqAt.shaped
  rw [lay_ok h.1, dep_py]
  have := of_decide_eq_true h.2
  simp
  omega
theorem scal_of {a b : D} {x y : V} (h : scalD a b = true) (ra : RepK T .v S t H x a) (rb : RepK T .v S t H y b) : L2.scal x y = true ∧ decide (x = y) = deq a b := by
  have ta := ra.tree (by cases a <;> first | exact fun z => z | (cases b <;> cases h))
  have tb := rb.tree (by cases b <;> first | exact fun z => z | (cases a <;> cases h))
  cases ta <;> cases tb <;> first | (cases h; done) | (refine ⟨rfl, ?_⟩; simp [deq, Bool.beq_eq_decide_eq])
  rename_i p q
  refine ⟨fun z => by cases z; rfl, fun z => ?_⟩
  cases p; cases q
  cases z
  rfl
theorem Op2.eq (hX : X.K = T.K) (hu : X.A.units + 64 < cLine) : Op2 X T κ (compareOp .Eq) dEq := by
  intro S t σ H x y a b d Q r ra rb e k pins s u w I ru rw
  unfold dEq at e
  by_cases h : scalD a b = true
  · rw [if_pos h] at e
    cases e
    obtain ⟨h1, h2⟩ := scal_of h ra rb
    exact L2.op_eq pins s σ H x y u w Q I ru rw ⟨h1, by rw [h2]; exact fin0 k r (.bl _)⟩
  · rw [if_neg h] at e
    by_cases h2 : fine a = true ∧ fine b = true
    · rw [if_pos h2] at e
      cases e
      obtain ⟨oa, sa⟩ := fine_sh h2.1
      obtain ⟨ob, sb⟩ := fine_sh h2.2
      exact L2.op_eqD hu pins s σ H x y u w Q I ru rw ⟨toPy a, toPy b, by rw [hX]; exact ra.dp r oa, by rw [hX]; exact rb.dp r ob, sa, sb, by rw [eqv_deq oa ob]; exact fin0 k r (.bl _)⟩
    · rw [if_neg h2] at e; cases e
theorem Op2.ne (hX : X.K = T.K) (hu : X.A.units + 64 < cLine) : Op2 X T κ (compareOp .NotEq) dNe := by
  intro S t σ H x y a b d Q r ra rb e k pins s u w I ru rw
  unfold dNe at e
  by_cases h : scalD a b = true
  · rw [if_pos h] at e
    cases e
    obtain ⟨h1, h2⟩ := scal_of h ra rb
    exact L2.op_ne pins s σ H x y u w Q I ru rw ⟨h1, by rw [h2]; exact fin0 k r (.bl _)⟩
  · rw [if_neg h] at e
    by_cases h2 : fine a = true ∧ fine b = true
    · rw [if_pos h2] at e
      cases e
      obtain ⟨oa, sa⟩ := fine_sh h2.1
      obtain ⟨ob, sb⟩ := fine_sh h2.2
      exact L2.op_neD hu pins s σ H x y u w Q I ru rw ⟨toPy a, toPy b, by rw [hX]; exact ra.dp r oa, by rw [hX]; exact rb.dp r ob, sa, sb, by rw [eqv_deq oa ob]; exact fin0 k r (.bl _)⟩
    · rw [if_neg h2] at e; cases e
end
end TL
set_option Elab.async false
set_option linter.all false
set_option maxRecDepth 100000
set_option maxHeartbeats 2000000
/-! TLt: in, is None, indexes, slices, join, built-in functions. -/
namespace TL
open PySem PySem.Spec
open PyProof.Rows hiding St
open L2 (V HO Hp Cx Inv VK TE TS TO Ends SqL SqT upd upd_same upd_ne ne_of ne_of_none Rd Mut EP SP PE PS PSs PT PO TP WX Takes RelV Vals Key kV Vis Loc Gl Dp DpAll)
section
variable {X : Cx} {T : Tab} {κ κ1 κ2 : Kd} {W : WX} {S S' : Sx} {t : Fr} {σ : L2.St} {H H' : Hp} {Q Q1 : VK} {pos : Pos}
/-! ### in -/
theorem flat_of {io : List Addr} {v : V} {d : D} (h : Rep T io H v d) (f : flatD d = true) : L2.flatV v = true := by cases h <;> first | rfl | cases f
theorem flats_of {io : List Addr} : ∀ {vs : List V} {ds : List D}, Reps T io H vs ds → ds.all flatD = true → vs.all L2.flatV = true
  | _, _, .nil, _ => rfl
  | _, _, .cons a b, f => by
    rw [List.all_cons, Bool.and_eq_true] at f ⊢
    exact ⟨flat_of a f.1, flats_of b f.2⟩
theorem eqV_deq {io : List Addr} {v w : V} {d e : D} (h : Rep T io H v d) (k : Rep T io H w e) (f : flatD d = true) (g : flatD e = true) : L2.eqV v w = deq d e := by
  cases h <;> first | (cases f; done) | skip
  all_goals cases k <;> first | (cases g; done) | (simp [L2.eqV, deq, Bool.beq_eq_decide_eq]; done) | skip
  rename_i p q
  show (p == q) = decide (p.cps.toList = q.cps.toList)
  by_cases e : p = q
  · subst e; simp
  · rw [decide_eq_false (fun z => e ?_)]
    · exact beq_eq_false_iff_ne.mpr e
    · cases p; cases q
      have := congrArg List.toArray z
      simp at this
      rw [this]
theorem inV_inD {io : List Addr} {x : V} {a : D} (h : Rep T io H x a) (f : flatD a = true) : ∀ {vs : List V} {ds : List D}, Reps T io H vs ds → ds.all flatD = true → L2.inV x vs = inD a ds
  | _, _, .nil, _ => rfl
  | _, _, .cons b c, g => by
    rw [List.all_cons, Bool.and_eq_true] at g
    unfold L2.inV inD
    rw [List.any_cons, List.any_cons, eqV_deq b h g.1 f]
    have ih := inV_inD h f c g.2
    unfold L2.inV inD at ih
    rw [ih]
theorem flat_nt {d : D} (f : flatD d = true) : ¬ Thing d := by cases d <;> first | exact fun z => z | cases f
theorem any_eqv {a : D} (oa : okD a = true) : ∀ {ds : List D}, okDs ds = true → ((toPys ds).any fun z => PyData.eqv z (toPy a)) = inD a ds
  | [], _ => by unfold toPys; rfl
  | y :: ys, ob => by
    unfold okDs at ob
    have ob := Bool.and_eq_true_iff.mp ob
    have ih := any_eqv oa ob.2
    unfold inD at ih ⊢
    unfold toPys
    rw [List.any_cons, List.any_cons, eqv_deq ob.1 oa, ih]
/-- in, with its answer given to g -/
theorem in_road {neg : Bool} {op : CmpOp} (hX : X.K = T.K)
    (o1 : L2.OpR X (compareOp op) (L2.rIn X.K neg))
    (o2 : L2.OpR X (compareOp op) (fun x y H Q => ∃ (c : Nat) (z : Str), x = .str ⟨#[c]⟩ ∧ y = .str z ∧ Q (.bl (if neg = true then !decide (c ∈ z.cps.toList) else decide (c ∈ z.cps.toList))) H))
    (o3 : L2.OpR X (compareOp op) (fun x y H Q => ∃ d ds, Dp X.K H x d ∧ Dp X.K H y (.list ds) ∧ SeqAt.shaped d = true ∧ SeqAt.shaped (.list ds) = true ∧ Q (.bl (if neg = true then !ds.any (fun z => PyData.eqv z d) else ds.any (fun z => PyData.eqv z d))) H)) :
    Op2 X T κ (compareOp op) (fun x y => if neg = true then notD (dIn x y) else dIn x y) := by
  intro S t σ H x y a b d Q r ra rb e k pins s u w I ru rw'
  obtain ⟨z, e1, e2⟩ : ∃ z, dIn a b = some (.bl z) ∧ d = .bl (if neg = true then !z else z) := by
    have hb : ∀ d', dIn a b = some d' → ∃ z, d' = .bl z := fun d' h => by
      unfold dIn at h
      split at h
      · cases h; exact ⟨_, rfl⟩
      · split at h
        · cases h; exact ⟨_, rfl⟩
        · split at h
          · cases h; exact ⟨_, rfl⟩
          · cases h
      · split at h
        · cases h; exact ⟨_, rfl⟩
        · cases h
      · cases h
    dsimp only at e
    cases q : dIn a b with
    | none => rw [q] at e; cases neg <;> cases e
    | some d' =>
      obtain ⟨z, rfl⟩ := hb d' q
      rw [q] at e
      cases neg <;> (cases e; exact ⟨z, rfl, rfl⟩)
  subst e2
  have fin : ∀ {z' : Bool}, z' = z → ∀ {H1 : Hp}, H1 = H → Q (.bl (if neg = true then !z' else z')) H1 := fun h H1 h1 => by
    subst h h1
    exact fin0 k r (.bl _)
  have flat : ∀ ds : List D, flatD a = true ∧ ds.all flatD = true → inD a ds = z → (∃ p vs, y = .ref p ∧ (SqL T.K H p vs ∨ SqT T.K H p vs) ∧ Reps T S.io H vs ds) →
      wpAny (model X.prog X.w) X.A (compareOp op u w) (EP X pins σ Q) X.xe s := fun ds hf hz ⟨p, vs, e3, sq, rr⟩ => by
    have rx := ra.tree (flat_nt hf.1)
    refine o1 pins s σ H x y u w Q I ru rw' ⟨p, vs, e3, by rw [hX]; exact sq, flat_of rx hf.1, flats_of rr hf.2, ?_⟩
    have q := fin (hz ▸ (inV_inD rx hf.1 rr hf.2)) rfl
    cases neg <;> exact q
  unfold dIn at e1
  split at e1
  · rename_i c zz
    cases e1
    have h1 := ra.str; have h2 := rb.str
    subst h1 h2
    exact o2 pins s σ H _ _ u w Q I ru rw' ⟨c, sT zz, rfl, rfl, fin (by rw [sT_tl]) rfl⟩
  · rename_i ds
    split at e1
    · rename_i hf
      cases e1
      obtain ⟨p, vs, rfl, sq, rr⟩ := rb.sq r
      exact flat ds hf rfl ⟨p, vs, rfl, .inl sq, rr⟩
    · split at e1
      · rename_i hf
        cases e1
        obtain ⟨oa, sa⟩ := fine_sh hf.1
        obtain ⟨ob, sb⟩ := fine_sh hf.2
        refine o3 pins s σ H x y u w Q I ru rw' ⟨toPy a, toPys ds, by rw [hX]; exact ra.dp r oa, by rw [hX]; have := rb.dp r ob; unfold toPy at this; exact this, sa, by unfold toPy at sb; exact sb, fin ?_ rfl⟩
        exact any_eqv oa (by unfold okD at ob; exact ob)
      · cases e1
  · rename_i ds
    split at e1
    · rename_i hf
      cases e1
      obtain ⟨p, vs, rfl, sq, rr⟩ := rb.tq
      exact flat ds hf rfl ⟨p, vs, rfl, .inr sq, rr⟩
    · cases e1
  · cases e1
theorem Op2.in (hX : X.K = T.K) (hu : X.A.units + 65 < cLine) : Op2 X T κ (compareOp .In) dIn := by
  have h := in_road (X := X) (T := T) (κ := κ) (neg := false) (op := .In) hX L2.op_in_seq
    (fun pins s σ H x y u w Q I ru rw ⟨c, z, e1, e2, q⟩ => L2.op_in_sign pins s σ H x y u w Q I ru rw ⟨c, z, e1, e2, q⟩)
    (fun pins s σ H x y u w Q I ru rw ⟨c, z, e1, e2, e3, e4, q⟩ => L2.op_inD hu pins s σ H x y u w Q I ru rw ⟨c, z, e1, e2, e3, e4, q⟩)
  exact h
theorem Op2.notIn (hX : X.K = T.K) (hu : X.A.units + 65 < cLine) : Op2 X T κ (compareOp .NotIn) dNotIn := by
  have h := in_road (X := X) (T := T) (κ := κ) (neg := true) (op := .NotIn) hX L2.op_notIn_seq
    (fun pins s σ H x y u w Q I ru rw ⟨c, z, e1, e2, q⟩ => L2.op_notIn_sign pins s σ H x y u w Q I ru rw ⟨c, z, e1, e2, q⟩)
    (fun pins s σ H x y u w Q I ru rw ⟨c, z, e1, e2, e3, e4, q⟩ => L2.op_notInD hu pins s σ H x y u w Q I ru rw ⟨c, z, e1, e2, e3, e4, q⟩)
  exact h
/-! ### is None -/
theorem non_dec {x : V} {a : D} (ra : RepK T .v S t H x a) : decide (x = .non) = isN a := by
  rcases ra with h | ⟨i, p, rfl, hp, e, th⟩
  · cases h <;> simp [isN]
  · have : isN a = false := by cases a <;> first | rfl | exact th.elim
    rw [this]; simp
theorem Op2.isN : Op2 X T κ (compareOp .Is) dIsN := Op2.of L2.op_isN fun S t σ H x y a b d Q r ra rb e k => by
  unfold dIsN at e
  split at e
  · cases e
    exact ⟨rb.non, by rw [non_dec ra]; exact fin0 k r (.bl _)⟩
  · cases e
theorem Op2.isNotN : Op2 X T κ (compareOp .IsNot) dIsNotN := Op2.of L2.op_notN fun S t σ H x y a b d Q r ra rb e k => by
  unfold dIsNotN at e
  split at e
  · cases e
    exact ⟨rb.non, by rw [non_dec ra]; exact fin0 k r (.bl _)⟩
  · cases e
/-! ### indexes -/
theorem atD_at {io : List Addr} {vs : List V} {ds : List D} {i : Int} {d : D} (r : Reps T io H vs ds) (h : atD ds i = some d) : ∃ v, L2.atI vs i = some v ∧ Rep T io H v d := by
  have e : L2.ixN vs.length i = ixOf ds.length i := by rw [r.length]; rfl
  unfold atD at h
  unfold L2.atI
  rw [e]
  cases q : ixOf ds.length i with
  | none => rw [q] at h; cases h
  | some j =>
    rw [q] at h
    exact r.get h
theorem Ev.ix {a b : Expr} {ga gb : GE} (hX : X.K = T.K) (ha : Ev X T .v a ga) (hb : Ev X T .v b gb) (hs : L2.PlainIx b := by intro _ _; rfl) : Ev X T .t (.Subscript a b pos) (gIx ga gb) := by
  intro W tk S t σ H Q r p
  refine PE.w (L2.pe_ix L2.ix_seq (wE_pe X a) (wE_pe X b) hs) ?_
  refine ha W tk S t σ H _ r (EPost.bind (κ1 := .v) p fun d m v H1 S1 nx hm rs rep p1 => ?_)
  refine hb W tk S1 t σ H1 _ rs ?_
  rw [hm]
  refine EPost.bind (κ1 := .v) p1 fun e m2 u H2 S2 nx2 hm2 rs2 rep2 p2 => ?_
  replace rep := rep.keep nx2
  cases q : dIx m2 d e with
  | none => unfold lift at p2; rw [q] at p2; exact p2.elim
  | some z =>
    unfold lift at p2; rw [q] at p2
    have fin : ∀ {v : V}, Rep T S2.io H2 v z → Q v H2 := fun h => p2 _ H2 S2 (Nxt.refl _ _) hm2 rs2 h
    unfold dIx at q
    split at q
    · rename_i xs i
      obtain ⟨a, vs, rfl, sq, rr⟩ := rep.sq rs2
      obtain ⟨v, e1, rv⟩ := atD_at rr q
      exact .inl ⟨a, vs, i, v, rfl, rep2.int, by rw [hX]; exact sq, e1, fin rv⟩
    · rename_i xs i
      obtain ⟨a, vs, rfl, sq, rr⟩ := rep.tq
      obtain ⟨v, e1, rv⟩ := atD_at rr q
      exact .inr (.inl ⟨a, vs, i, v, rfl, rep2.int, by rw [hX]; exact sq, e1, fin rv⟩)
    · rename_i x i
      split at q
      · rename_i hl
        cases e1 : atD x i with
        | none => rw [e1] at q; cases q
        | some c =>
          rw [e1] at q
          cases q
          refine .inr (.inr ⟨sT x, i, c, rep.str, rep2.int, by rw [sT_len, lim_eq]; exact hl, ?_, fin (Rep.strS [c])⟩)
          rw [sT_tl]
          exact e1
      · cases q
    · rename_i k i
      cases e1 : m2[k]? with
      | none => rw [e1] at q; cases q
      | some c =>
        rw [e1] at q
        cases c with
        | lst xs =>
          have q : atD xs i = some z := q
          have rt := rep.tree fun z => z
          cases rt with
          | obj hk =>
            rename_i a
            obtain ⟨vs, eh, rr⟩ := rs2.g.cell k a (.lst xs) hk (by rw [hm2]; exact e1)
            obtain ⟨v, e3, rv⟩ := atD_at rr q
            exact .inl ⟨a, vs, i, v, rfl, rep2.int, by rw [hX]; exact SqL.of eh, e3, fin rv⟩
        | _ => cases q
    · cases q
/-! ### slices -/
abbrev wO (X : Cx) (e : Option Expr) : TO := fun σ H Q => ∀ (pins : List (Addr × Obj)) (s : Shared), Inv X pins σ H s →
  wpAny (model X.prog X.w) X.A (evalPart e X.env) (fun u s' => ∃ o H', Inv X pins σ H' s' ∧ IsPart u o ∧ Q o H') X.xe s
theorem cutV_reps {io : List Addr} {vs : List V} {ds : List D} (r : Reps T io H vs ds) (lo hi : Option Int) : Reps T io H (L2.cutV vs lo hi) (cutD ds lo hi) := by
  unfold L2.cutV cutD
  rw [r.length]
  exact (r.drop _).take _
theorem cutS_sT (x : Tx) (lo hi : Option Int) : L2.cutS (sT x) lo hi = sT (cutD x lo hi) := by
  unfold L2.cutS cutD
  rw [sT_len, sT_tl]
  rfl
def OPost (X : Cx) (T : Tab) (W : WX) (S : Sx) (t : Fr) (σ : L2.St) (H : Hp) (Q : Option Int → Hp → Prop) : Out (Option Int) → Prop
  | .ok d m => ∀ H' S', Nxt S H S' H' → S'.mu = m → RS T S' t σ H' → Q d H'
  | .exc c fs m => ∀ dx H' S', Nxt S H S' H' → S'.mu = m → RS T S' t σ H' → ExcAt T S'.io H' c dx fs → W (.ref (T.ad c)) dx σ H'
  | .bad => False
/-- a part of a slice: its reading -/
structure Eo (X : Cx) (T : Tab) (e : Option Expr) (g : GO) : Prop where
  ex : ∃ te : TO, PO X e te ∧ ∀ (W : WX), Takes X W → ∀ (S : Sx) (t : Fr) (σ : L2.St) (H : Hp) (Q : Option Int → Hp → Prop), RS T S t σ H → OPost X T W S t σ H Q (g t S.mu) → te σ H Q
theorem Eo.no : Eo X T none oNo := ⟨_, L2.po_none, fun W tk S t σ H Q r p => p H S (Nxt.refl _ _) rfl r⟩
theorem Eo.at {e : Expr} {g : GE} (h : Ev X T .v e g) : Eo X T (some e) (oAt g) := ⟨_, L2.po_some (wE_pe X e), fun W tk S t σ H Q r p => by
  refine h W tk S t σ H _ r ?_
  have p : OPost X T W S t σ H Q ((g t S.mu).bind fun x m => match x with
    | .int i => .ok (some i) m
    | _ => .bad) := p
  cases q : g t S.mu with
  | ok d m =>
    rw [q] at p
    intro v H' S' nx hm rs rep
    cases d with
    | int i => exact ⟨i, rep.int, p H' S' nx hm rs⟩
    | _ => exact False.elim p
  | exc c fs m => rw [q] at p; exact p
  | bad => rw [q] at p; exact p.elim⟩
theorem EPost.bindO {o : Out (Option Int)} {f : Option Int → Store → Out D} {Q1 : Option Int → Hp → Prop} (h : EPost X T κ W S t σ H Q (o.bind f))
    (k : ∀ d m H' S', Nxt S H S' H' → S'.mu = m → RS T S' t σ H' → EPost X T κ W S' t σ H' Q (f d m) → Q1 d H') : OPost X T W S t σ H Q1 o := by
  cases o with
  | ok d m => exact fun H' S' nx hm rs => k d m H' S' nx hm rs (EPost.shift nx h)
  | exc c fs m => exact h
  | bad => exact h
theorem Ev.sl {a : Expr} {lo hi : Option Expr} {ga : GE} {gl gh : GO} {p2 : Pos} (hX : X.K = T.K) (ha : Ev X T .v a ga) (hl : Eo X T lo gl) (hh : Eo X T hi gh) : Ev X T .n (.Subscript a (.Slice lo hi none p2) pos) (gSl ga gl gh) := by
  obtain ⟨⟨tl, pl, hl⟩⟩ := hl
  obtain ⟨⟨th, ph, hh⟩⟩ := hh
  intro W tk S t σ H Q r p
  refine PE.w (L2.pe_slice (L2.sl_str.or L2.sl_list) (wE_pe X a) pl ph) ?_
  refine ha W tk S t σ H _ r (EPost.bind (κ1 := .v) p fun d m v H1 S1 nx hm rs rep p1 => ?_)
  refine hl W tk S1 t σ H1 _ rs ?_
  rw [hm]
  refine EPost.bindO p1 fun lo m2 H2 S2 nx2 hm2 rs2 p2 => ?_
  refine hh W tk S2 t σ H2 _ rs2 ?_
  rw [hm2]
  refine EPost.bindO p2 fun hi m3 H3 S3 nx3 hm3 rs3 p3 => ?_
  replace rep := (rep.keep nx2).keep nx3
  cases q : dSl d lo hi with
  | none => unfold lift at p3; rw [q] at p3; exact p3.elim
  | some z =>
    unfold lift at p3; rw [q] at p3
    have k : ∀ v H' S', Nxt S3 H3 S' H' → S'.mu = S3.mu → RS T S' t σ H' → RepK T .n S' t H' v z → Q v H' := fun v H' S' n1 h1 r1 rp => p3 v H' S' n1 (h1.trans hm3) r1 rp
    unfold dSl at q
    split at q
    · rename_i x
      split at q
      · rename_i hx
        cases q
        refine .inl ⟨sT x, rep.str, by rw [sT_len, lim_eq]; exact hx, ?_⟩
        rw [cutS_sT]
        exact fin0 k rs3 (Rep.strS _)
      · cases q
    · rename_i ds
      cases q
      obtain ⟨a, vs, rfl, sq, rr⟩ := rep.sq rs3
      exact .inr ⟨a, vs, rfl, by rw [hX]; exact sq, fun p hn => finN k rs3 hn ⟨_, upd_same, cutV_reps (rr.mono (Keep.upd (.inl hn)) (List.prefix_refl _)) _ _⟩⟩
    · cases q
/-! ### built-in functions -/
theorem RepL.one {vs : List V} {d : D} (h : RepL T κ S t H vs [d]) : ∃ v, vs = [v] ∧ RepK T κ S t H v d := by
  cases h with
  | cons a b => cases b; exact ⟨_, rfl, a⟩
theorem FnS.int : FnS X T κ (.type "int") dInt := FnS.of L2.call_int1 fun S t σ H xs ds d Q r ra e k => by
  unfold dInt at e
  split at e
  · cases e
    obtain ⟨v, rfl, rv⟩ := ra.one
    have := rv.int
    subst this
    exact .inl ⟨_, rfl, fin0 k r (.int _)⟩
  · cases e
    obtain ⟨v, rfl, rv⟩ := ra.one
    have := rv.bl
    subst this
    refine .inr ⟨_, rfl, fin0 k r (.int _)⟩
  · cases e
theorem FnS.len (hX : X.K = T.K) : FnS X T κ (.builtin "len") dLen := by
  intro S t σ H xs ds d Q r ra e k pins s us I ru
  unfold dLen at e
  split at e
  · rename_i x
    split at e
    · rename_i hl
      cases e
      obtain ⟨v, rfl, rv⟩ := ra.one
      have := rv.str
      subst this
      refine L2.call_len_str pins s σ H _ us Q I ru ⟨sT x, rfl, by rw [sT_len, lim_eq]; exact hl, ?_⟩
      rw [sT_len]
      exact fin0 k r (.int _)
    · cases e
  · cases e
    obtain ⟨v, rfl, rv⟩ := ra.one
    obtain ⟨a, vs, rfl, sq, rr⟩ := rv.sq r
    refine L2.call_len_seq pins s σ H _ us Q I ru ⟨a, vs, rfl, .inl (by rw [hX]; exact sq), ?_⟩
    rw [rr.length]
    exact fin0 k r (.int _)
  · cases e
    obtain ⟨v, rfl, rv⟩ := ra.one
    obtain ⟨a, vs, rfl, sq, rr⟩ := rv.tq
    refine L2.call_len_seq pins s σ H _ us Q I ru ⟨a, vs, rfl, .inr (by rw [hX]; exact sq), ?_⟩
    rw [rr.length]
    exact fin0 k r (.int _)
  · cases e
theorem bls_reps {io : List Addr} : ∀ {vs : List V} {ds : List D} {bs : List Bool}, Reps T io H vs ds → blsOf ds = some bs → vs = bs.map V.bl
  | _, _, bs, .nil, e => by cases e; rfl
  | _, d :: ds, bs, .cons a b, e => by
    cases d with
    | bl x =>
      unfold blsOf at e
      cases q : blsOf ds with
      | none => rw [q] at e; cases e
      | some l =>
        rw [q] at e
        cases e
        rw [rep_bl a, bls_reps b q]
        rfl
    | _ => cases e
theorem ints_reps {io : List Addr} : ∀ {vs : List V} {ds : List D} {bs : List Int}, Reps T io H vs ds → intsOf ds = some bs → vs = bs.map V.int
  | _, _, bs, .nil, e => by cases e; rfl
  | _, d :: ds, bs, .cons a b, e => by
    cases d with
    | int x =>
      unfold intsOf at e
      cases q : intsOf ds with
      | none => rw [q] at e; cases e
      | some l =>
        rw [q] at e
        cases e
        rw [rep_int a, ints_reps b q]
        rfl
    | _ => cases e
theorem strs_reps {io : List Addr} : ∀ {vs : List V} {ds : List D} {bs : List Tx}, Reps T io H vs ds → strsOf ds = some bs → vs = (bs.map sT).map V.str
  | _, _, bs, .nil, e => by cases e; rfl
  | _, d :: ds, bs, .cons a b, e => by
    cases d with
    | str x =>
      unfold strsOf at e
      cases q : strsOf ds with
      | none => rw [q] at e; cases e
      | some l =>
        rw [q] at e
        cases e
        rw [rep_str a, strs_reps b q]
        rfl
    | _ => cases e
theorem FnS.any (hX : X.K = T.K) (hc : X.calm = true) : FnS X T κ (.builtin "any") dAny := FnS.of (L2.cr_any hc) fun S t σ H xs ds d Q r ra e k => by
  unfold dAny at e
  split at e
  · rename_i l
    cases q : blsOf l with
    | none => rw [q] at e; cases e
    | some bs =>
      rw [q] at e
      cases e
      obtain ⟨v, rfl, rv⟩ := ra.one
      obtain ⟨a, vs, rfl, sq, rr⟩ := rv.sq r
      have := bls_reps rr q
      subst this
      exact ⟨a, bs, rfl, by rw [hX]; exact sq, fin0 k r (.bl _)⟩
  · cases e
theorem FnS.all (hX : X.K = T.K) (hc : X.calm = true) : FnS X T κ (.builtin "all") dAll := FnS.of (L2.cr_all hc) fun S t σ H xs ds d Q r ra e k => by
  unfold dAll at e
  split at e
  · rename_i l
    cases q : blsOf l with
    | none => rw [q] at e; cases e
    | some bs =>
      rw [q] at e
      cases e
      obtain ⟨v, rfl, rv⟩ := ra.one
      obtain ⟨a, vs, rfl, sq, rr⟩ := rv.sq r
      have := bls_reps rr q
      subst this
      exact ⟨a, bs, rfl, by rw [hX]; exact sq, fin0 k r (.bl _)⟩
  · cases e
theorem FnS.sum (hX : X.K = T.K) (hc : X.calm = true) : FnS X T κ (.builtin "sum") dSum := FnS.of (L2.cr_sum hc) fun S t σ H xs ds d Q r ra e k => by
  unfold dSum at e
  split at e
  · rename_i l
    cases q : intsOf l with
    | none => rw [q] at e; cases e
    | some bs =>
      rw [q] at e
      cases e
      obtain ⟨v, rfl, rv⟩ := ra.one
      obtain ⟨a, vs, rfl, sq, rr⟩ := rv.sq r
      have := ints_reps rr q
      subst this
      exact ⟨a, bs, rfl, by rw [hX]; exact sq, fin0 k r (.int _)⟩
  · cases e
theorem FnS.tuple (hX : X.K = T.K) : FnS X T .t (.type "tuple") dTuple := FnS.of L2.call_tuple_of fun S t σ H xs ds d Q r ra e k => by
  unfold dTuple at e
  split at e
  · cases e
    obtain ⟨v, rfl, rv⟩ := ra.one
    obtain ⟨a, vs, rfl, sq, rr⟩ := rv.sq r
    refine ⟨a, vs, rfl, .inl ⟨by rw [hX]; exact sq, fun l hn => ?_⟩⟩
    have kk : Keep H (upd H l (.tup vs)) := Keep.upd (.inl hn)
    exact k _ _ S ⟨rfl, rfl, List.prefix_refl _, rfl, kk⟩ rfl (r.grow (grow_upd hn)) (Rep.tup (SqT.of upd_same) (rr.mono kk (List.prefix_refl _)))
  · cases e
    obtain ⟨v, rfl, rv⟩ := ra.one
    obtain ⟨a, vs, rfl, sq, rr⟩ := rv.tq
    exact ⟨a, vs, rfl, .inr ⟨by rw [hX]; exact sq, k _ H S (Nxt.refl _ _) rfl r (Rep.tup sq rr)⟩⟩
  · cases e
theorem signs_reps {io : List Addr} : ∀ x : Tx, Reps T io H (x.map fun c => V.str (sT [c])) (x.map fun c => D.str [c])
  | [] => .nil
  | c :: x => .cons (Rep.strS [c]) (signs_reps x)
theorem vals_get : ∀ {xs : List V} {us : List Value}, xs.length = us.length → (∀ (i : Nat) (v : V) (u : Value), xs[i]? = some v → us[i]? = some u → RelV v u) → Vals xs us
  | [], [], _, _ => .nil
  | x :: xs, u :: us, hl, h => .cons (h 0 x u rfl rfl) (vals_get (by simpa using hl) fun i v w e1 e2 => h (i + 1) v w (by simpa using e1) (by simpa using e2))
  | [], _ :: _, hl, _ => by simp at hl
  | _ :: _, [], hl, _ => by simp at hl
theorem signs_vals {x : Str} {acc : Array Value} (h : ItemsOf (SignAt x) acc x.cps.size) : Vals (x.cps.toList.map fun c => V.str (sT [c])) acc.toList := by
  have hl : acc.size = x.cps.size := h.1
  refine vals_get ?_ ?_
  · simp [hl]
  · intro i v u e1 e2
    have e2 : acc[i]? = some u := by simpa using e2
    obtain ⟨c, tk, hc, rfl⟩ := h.2 i u e2
    rw [List.getElem?_map, Array.getElem?_toList, hc] at e1
    cases e1
    exact ⟨tk, rfl⟩
theorem FnS.list (hX : X.K = T.K) (hc : X.calm = true) : FnS X T .n (.type "list") dList := by
  intro S t σ H xs ds d Q r ra e k pins s us I ru
  unfold dList at e
  split at e
  · cases e
    obtain ⟨v, rfl, rv⟩ := ra.one
    obtain ⟨a, vs, rfl, sq, rr⟩ := rv.sq r
    exact L2.call_list_of pins s σ H _ us Q I ru ⟨a, vs, rfl, .inl (by rw [hX]; exact sq), fun l hn => finN k r hn ⟨vs, upd_same, rr.mono (Keep.upd (.inl hn)) (List.prefix_refl _)⟩⟩
  · cases e
    obtain ⟨v, rfl, rv⟩ := ra.one
    obtain ⟨a, vs, rfl, sq, rr⟩ := rv.tq
    exact L2.call_list_of pins s σ H _ us Q I ru ⟨a, vs, rfl, .inr (by rw [hX]; exact sq), fun l hn => finN k r hn ⟨vs, upd_same, rr.mono (Keep.upd (.inl hn)) (List.prefix_refl _)⟩⟩
  · rename_i x
    split at e
    · rename_i hl
      cases e
      obtain ⟨v, rfl, rv⟩ := ra.one
      have := rv.str
      subst this
      obtain ⟨u, rfl, ⟨tk, rfl⟩⟩ := L2.Vals.one ru
      have hz : (sT x).cps.size ≤ sizeLine := by have := sT_len x; unfold Str.length at this; rw [this, lim_eq]; exact hl
      refine call_list_str (I.ok.hd hc) (sT x) tk (fun h' tk' acc c' kp e he => ?_) hz
      have hn : H s.heap.objs.size = none := I.hok.fresh (Nat.le_refl _)
      have hv := signs_vals he
      rw [sT_tl] at hv
      refine ⟨.ref s.heap.objs.size, _, I.laid (t' := tk') kp (Nat.le_refl _) (show L2.ObjOk X.prog X.w _ h' _ (.lst (x.map fun c => V.str (sT [c]))) from ⟨by rw [List.length_map, lim_eq]; exact hl, acc.toList, c', hv, by rw [Array.toArray_toList]; exact e⟩), rfl, ?_⟩
      exact finN k r hn ⟨_, upd_same, signs_reps x⟩
    · cases e
  · cases e
/-! ### join -/
theorem joinT_L (a : Tx) : ∀ ys : List Tx, joinT a ys = joinL a ys
  | [] => rfl
  | [y] => rfl
  | x :: y :: r => by
    show x ++ (a ++ joinT a (y :: r)) = x ++ (a ++ joinL a (y :: r))
    rw [joinT_L a (y :: r)]
theorem join_sT (a : Tx) (ys : List Tx) : Txt.join (sT a) (ys.map sT) = sT (joinT a ys) := by
  have h : tl (Txt.join (sT a) (ys.map sT)) = joinT a ys := by
    rw [join_eq, tl_join, joinT_L, List.map_map]
    have e : (tl ∘ sT) = id := funext fun x => sT_tl x
    rw [e]
    have e2 : tl (sT a) = a := sT_tl a
    rw [e2, List.map_id]
  rw [← h]
  exact (tl_sT _).symm
theorem sum_len (ys : List Tx) : ((ys.map sT).map (·.length)).sum = (ys.map List.length).sum := by
  rw [List.map_map]
  exact congrArg List.sum (List.map_congr_left fun x _ => sT_len x)
/-- a built-in method of a text, with arguments -/
theorem Ev.ms {name : Str} {id : String} {r : V → List V → Hp → VK → Prop} {f : Tx → List D → Option D} {o e : Expr} {es : List Expr} {go : GE} {ga : GA} {apos cpos : Pos}
    (slot : PySem.Slot "str" name id) (hty : typeOf (.builtin id) = pure (.type "method_descriptor")) (hm : L2.MtR X id r)
    (hf : ∀ (S : Sx) (t : Fr) (σ : L2.St) (H : Hp) (x : Tx) (xs : List V) (ds : List D) (d : D) (Q : VK), RS T S t σ H → RepL T .v S t H xs ds → f x ds = some d →
      (∀ v H' S', Nxt S H S' H' → S'.mu = S.mu → RS T S' t σ H' → RepK T κ S' t H' v d → Q v H') → r (.str (sT x)) xs H Q)
    (ho : Ev X T .v o go) (ha : Ea X T .v (e :: es) ga)
    (hbase : attributeBase o name X.env (eval o X.env) = eval o X.env := by rfl)
    (hfew : ((backTo cpos (starEach (e :: es) X.env)).all (fun x => !x.1) && (backToKw cpos (keywordEach [] X.env)).all (fun x => x.1.isSome)
      && decide ((e :: es).length + ([] : List Keyword).length + (if ([] : List Keyword).isEmpty then 0 else 1) < 30)) = true := by rfl)
    (hline : (apos.endLine == cpos.line) = true := by rfl) (hst : starEach (e :: es) X.env = (false, eval e X.env) :: starEach es X.env := by rfl) (hplain : (backTo cpos (starEach es X.env)).any (·.1) = false := by rfl) :
    Ev X T κ (.Call (.Attribute o name apos) (e :: es) [] cpos) (gMs f go ga) := by
  intro W tk S t σ H Q r p
  refine PE.w (L2.pe_bm PySem.F.plainAttrs_str slot hty hm (wE_pe X o) (wA_pa X (e :: es)) hbase hfew hline hst hplain) ?_
  refine ho W tk S t σ H _ r (EPost.bind (κ1 := .v) p fun d m v H1 S1 nx hm rs rep p1 => ?_)
  cases d with
  | str a =>
    have := rep.str
    subst this
    refine ⟨rfl, ?_⟩
    refine ha W tk S1 t σ H1 _ rs ?_
    rw [hm]
    refine EPost.bindA (κ1 := .v) p1 fun ds m2 us H2 S2 nx2 hm2 rs2 rep2 p2 => ?_
    cases q : f a ds with
    | none => unfold lift at p2; rw [q] at p2; exact p2.elim
    | some z =>
      unfold lift at p2; rw [q] at p2
      exact hf S2 t σ H2 a us ds z Q rs2 rep2 q fun v' H' S' n' hm' rs' rep' => p2 v' H' S' n' (hm'.trans hm2) rs' rep'
  | _ => exact False.elim p1
theorem join_ok (hX : X.K = T.K) : ∀ (S : Sx) (t : Fr) (σ : L2.St) (H : Hp) (x : Tx) (xs : List V) (ds : List D) (d : D) (Q : VK), RS T S t σ H → RepL T .v S t H xs ds → dJoin x ds = some d →
      (∀ v H' S', Nxt S H S' H' → S'.mu = S.mu → RS T S' t σ H' → RepK T κ S' t H' v d → Q v H') →
      (fun x xs H Q => ∃ a p, ∃ ys : List Str, x = V.str a ∧ xs = [V.ref p] ∧ (SqL X.K H p (ys.map V.str) ∨ SqT X.K H p (ys.map V.str)) ∧
        (ys.map (·.length)).sum + ys.length * a.length ≤ 16777216 ∧ Q (V.str (Txt.join a ys)) H) (V.str (sT x)) xs H Q := by
  intro S t σ H x xs ds d Q r ra q k
  unfold dJoin at q
  split at q
  · rename_i l
    split at q
    · rename_i ys e2
      split at q
      · rename_i hl
        cases q
        obtain ⟨v, rfl, rv⟩ := ra.one
        obtain ⟨p, vs, rfl, sq, rr⟩ := rv.sq r
        have := strs_reps rr e2
        subst this
        refine ⟨sT x, p, ys.map sT, rfl, rfl, .inl (by rw [hX]; exact sq), ?_, ?_⟩
        · rw [sum_len, List.length_map, sT_len]
          exact hl
        · rw [join_sT]
          exact fin0 k r (Rep.strS _)
      · cases q
    · cases q
  · cases q
theorem Ev.join {o e : Expr} {go : GE} {ga : GA} {apos cpos : Pos} (hX : X.K = T.K) (ho : Ev X T .v o go) (ha : Ea X T .v [e] ga)
    (hbase : attributeBase o "join" X.env (eval o X.env) = eval o X.env := by rfl)
    (hfew : ((backTo cpos (starEach [e] X.env)).all (fun x => !x.1) && (backToKw cpos (keywordEach [] X.env)).all (fun x => x.1.isSome)
      && decide ([e].length + ([] : List Keyword).length + (if ([] : List Keyword).isEmpty then 0 else 1) < 30)) = true := by rfl)
    (hline : (apos.endLine == cpos.line) = true := by rfl) (hst : starEach [e] X.env = (false, eval e X.env) :: starEach [] X.env := by rfl) (hplain : (backTo cpos (starEach [] X.env)).any (·.1) = false := by rfl) :
    Ev X T κ (.Call (.Attribute o "join" apos) [e] [] cpos) (gMs dJoin go ga) :=
  Ev.ms PySem.F.slot_str_join PySem.F.type_str_join L2.mt_join (join_ok hX) ho ha hbase hfew hline hst hplain
end
end TL
set_option Elab.async false
set_option linter.all false
set_option maxRecDepth 100000
set_option maxHeartbeats 2000000
/-! TLu: cells of the store; unpacking; calls with keywords; repr. -/
namespace TL
open PySem PySem.Spec
open PyProof.Rows hiding St
open L2 (V HO Hp Cx Inv VK TE TS TO TG TGs Ends SqL SqT upd upd_same upd_ne ne_of ne_of_none Rd Mut EP AP SP PE PS PSs PT PO PG PGs TP PK WX Takes RelV Vals Key kV Vis Loc Gl Room Dp DpAll)
/-- an own list becomes a cell -/
def sPub (i : Nat) : GS := fun t m => match t[i]? with
  | some (.own d) => .next (t.set i (.val (.obj m.length))) (m ++ [d])
  | some (.val _) => .next t m
  | _ => .bad
/-- o[i] = e, o a cell's handle -/
def sCset (o i e : GE) : GS := fun t m => ofE (e t m) t fun d m => ofE (o t m) t fun x m => ofE (i t m) t fun y m => match x, y with
  | .obj k, .int j => match m[k]? with
    | some (.lst xs) => (match ixOf xs.length j with
      | some q => .next t (m.set k (.lst (xs.set q d)))
      | none => .bad)
    | _ => .bad
  | _, _ => .bad
/-- a, b = e: a list's or a tuple's items -/
def sUnp (l : List Nat) (e : GE) : GS := fun t m => ofE (e t m) t fun d m => match itemsOf d with
  | some ds => (match setAll l ds t with
    | some t' => .next t' m
    | none => .bad)
  | none => .bad
theorem nd_inj {α : Type} {l : List α} (nd : l.Nodup) {i j : Nat} (hi : i < l.length) (hj : j < l.length) (e : l[i] = l[j]) : i = j := by
  rcases Nat.lt_trichotomy i j with h | h | h
  · exact absurd e (List.pairwise_iff_getElem.mp nd i j hi hj h)
  · exact h
  · exact absurd e.symm (List.pairwise_iff_getElem.mp nd j i hj hi h)
section
variable {X : Cx} {T : Tab} {κ κ1 κ2 : Kd} {W : WX} {S S' : Sx} {t : Fr} {σ : L2.St} {H H' : Hp} {Q Q1 : VK} {pos : Pos}
/-! ### cells -/
theorem RS.pub {i : Nat} {a : Addr} {d : D} (r : RS T S t σ H) (h : t[i]? = some (.own d)) (hp : S.ps[i]? = some (some a)) (hs : σ[i]? = some (some (.ref a))) (ow : OwnAt T S.io H a d) :
    RS T { S with io := S.io ++ [a], mu := S.mu ++ [d], ps := S.ps.set i none } (t.set i (.val (.obj S.mu.length))) σ H := by
  have hm : some a ∈ S.ps := List.mem_of_getElem? hp
  have pre : S.io <+: S.io ++ [a] := List.prefix_append _ _
  have gd := r.g.drop (i := i)
  have ow' : ∀ {b d}, OwnAt T S.io H b d → OwnAt T (S.io ++ [a]) H b d := fun x => x.mono (Keep.refl _) pre rfl
  refine ⟨⟨r.g.same, r.g.pre.trans pre, fun p hp => ?_, gd.own, by simp [r.g.len], fun k p c e1 e2 => ?_, ?_, fun p hp' hq => ?_, gd.psnd⟩, by simp [r.l1], by simp [r.l2], fun j s v p e1 e2 e3 => ?_⟩
  · rcases List.mem_append.mp hp with z | z
    · exact r.g.new p z
    · rw [List.mem_singleton.mp z]; exact .inr (r.g.own a hm)
  · have e1 : (S.io ++ [a])[k]? = some p := e1
    have e2 : (S.mu ++ [d])[k]? = some c := e2
    by_cases hk : k < S.io.length
    · rw [List.getElem?_append_left hk] at e1
      rw [List.getElem?_append_left (by rw [← r.g.len]; exact hk)] at e2
      exact ow' (r.g.cell k p c e1 e2)
    · have hk2 : k < (S.io ++ [a]).length := (List.getElem?_eq_some_iff.mp e1).1
      have hk3 : k = S.io.length := by simp at hk2; omega
      subst hk3
      rw [List.getElem?_concat_length] at e1
      rw [r.g.len, List.getElem?_concat_length] at e2
      cases e1; cases e2
      exact ow' ow
  · exact List.nodup_append.mpr ⟨r.g.nd, by simp, fun x hx y hy => by
      rw [List.mem_singleton.mp hy]
      exact fun e => r.g.apart a hm (e ▸ hx)⟩
  · rcases List.mem_append.mp hq with z | z
    · exact gd.apart p hp' z
    · rw [List.mem_singleton.mp z] at hp'
      exact r.g.notin hp hp'
  · have e3 : (S.ps.set i none)[j]? = some p := e3
    by_cases hj : i = j
    · subst hj
      have h1 : i < t.length := (List.getElem?_eq_some_iff.mp h).1
      have h3 : i < S.ps.length := (List.getElem?_eq_some_iff.mp hp).1
      rw [List.getElem?_set_self h1] at e1
      rw [List.getElem?_set_self h3] at e3
      rw [hs] at e2
      cases e1; cases e3; cases e2
      refine ⟨rfl, .ref a, rfl, .obj ?_⟩
      show (S.io ++ [a])[S.mu.length]? = some a
      rw [← r.g.len, List.getElem?_concat_length]
    · rw [List.getElem?_set_ne hj] at e1 e3
      have x := r.sl j s v p e1 e2 e3
      cases s with
      | no => exact x
      | val d => obtain ⟨a1, y, b, c⟩ := x; exact ⟨a1, y, b, c.mono (Keep.refl _) pre⟩
      | own d2 =>
        obtain ⟨b, f, g, x⟩ := x
        exact ⟨b, f, g, ow' x⟩
theorem Ess.pub {i : Nat} {rest : List Stmt} {g : GS} (h : Ess X T rest g) : Ess X T rest (sSeq (sPub i) g) := by
  intro W tk S t σ H E r p
  unfold sSeq sPub at p
  cases e : t[i]? with
  | none => rw [e] at p; exact p.elim
  | some s =>
    rw [e] at p
    cases s with
    | no => exact p.elim
    | val d => exact h W tk S t σ H E r p
    | own d =>
      obtain ⟨a, e1, e2, ow⟩ := r.ownAt e
      have nn : NxtS S H { S with io := S.io ++ [a], mu := S.mu ++ [d], ps := S.ps.set i none } H := ⟨rfl, rfl, List.prefix_append _ _, Keep.refl _⟩
      exact h W tk _ _ σ H E (r.pub e e1 e2 ow) (SPost.shift nn p)
/-- a cell is changed -/
theorem RS.cellw {k : Nat} {a : Addr} {c c' : D} {o : HO} (r : RS T S t σ H) (hk : S.io[k]? = some a) (hc : S.mu[k]? = some c) (ow' : OwnAt T S.io (upd H a o) a c') :
    RS T { S with mu := S.mu.set k c' } t σ (upd H a o) ∧ Keep H (upd H a o) := by
  have ow := r.g.cell k a c hk hc
  obtain ⟨u, eu, mu⟩ := ow.mut
  have kp : Keep H (upd H a o) := Keep.upd (.inr (by rw [eu]; exact mu))
  have hm : a ∈ S.io := List.mem_of_getElem? hk
  have keepO : ∀ {b d}, b ≠ a → OwnAt T S.io H b d → OwnAt T S.io (upd H a o) b d := fun {b d} ne x => x.mono kp (List.prefix_refl _) (upd_ne ne)
  have na : S.H0 a = none ∨ a ∈ S.i0 := (r.g.new a hm).symm
  refine ⟨⟨⟨fun q x z n => ?_, r.g.pre, r.g.new, r.g.own, by simp [r.g.len], fun j b d e1 e2 => ?_, r.g.nd, r.g.apart, r.g.psnd⟩, r.l1, r.l2, fun j s v p e1 e2 e3 => ?_⟩, kp⟩
  · rw [upd_ne ?_]; exact r.g.same q x z n
    rintro rfl
    rcases na with h | h
    · rw [z] at h; cases h
    · exact n h
  · have e2 : (S.mu.set k c')[j]? = some d := e2
    by_cases hj : k = j
    · subst hj
      have hl : k < S.mu.length := (List.getElem?_eq_some_iff.mp hc).1
      rw [List.getElem?_set_self hl] at e2
      rw [hk] at e1
      cases e1; cases e2
      exact ow'
    · rw [List.getElem?_set_ne hj] at e2
      refine keepO (fun z => hj ?_) (r.g.cell j b d e1 e2)
      subst z
      obtain ⟨h1, e1'⟩ := List.getElem?_eq_some_iff.mp e1
      obtain ⟨h2, e2'⟩ := List.getElem?_eq_some_iff.mp hk
      exact nd_inj r.g.nd h2 h1 (e2'.trans e1'.symm)
  · have x := r.sl j s v p e1 e2 e3
    cases s with
    | no => exact x
    | val d => obtain ⟨a1, y, b, c⟩ := x; exact ⟨a1, y, b, c.mono kp (List.prefix_refl _)⟩
    | own d2 =>
      obtain ⟨b, f, g, x⟩ := x
      refine ⟨b, f, g, keepO (fun z => ?_) x⟩
      subst z
      refine r.g.apart b ?_ hm
      rw [← g]
      exact List.mem_of_getElem? e3
theorem Es.cset {o i e : Expr} {go gi ge : GE} {tp : Pos} (he : Ev X T .t e ge) (ho : Ev X T .v o go) (hi : Ev X T .v i gi)
    (hs : swapsWithSole [.Subscript o i tp] e pos.line X.env = pure false := by rfl) (hw : swappedStores [.Subscript o i tp] e X.env = pure none := by rfl)
    (h1 : (assignEach [.Subscript o i tp] X.env).map (·.2) = [assign (.Subscript o i tp) X.env] := by rfl)
    (ha : ∀ v, assign (.Subscript o i tp) X.env v = (do
      let ov ← holding [v] (eval o X.env)
      let iv ← holding [v, ov] (eval i X.env)
      standAt tp
      holding [v, ov, iv] (setItem ov iv v)
      release [v, ov, iv] []) := by intro _; rfl) : Es X T (.Assign [.Subscript o i tp] e pos) (sCset go gi ge) := by
  intro W tk S t σ H E r p
  refine PS.w (L2.ps_asg (wE_pe X e) (L2.pg_sub (wE_pe X o) (wE_pe X i) L2.set_list ha) hs hw h1) ?_
  refine he W tk S t σ H _ r (SPost.bind (κ1 := .t) p fun d m v H1 S1 nx1 hm1 rs1 rep1 p1 => ?_)
  refine ho W tk S1 t σ H1 _ rs1 ?_
  rw [hm1]
  refine SPost.bind (κ1 := .v) p1 fun x m2 ov H2 S2 nx2 hm2 rs2 rep2 p2 => ?_
  refine hi W tk S2 t σ H2 _ rs2 ?_
  rw [hm2]
  refine SPost.bind (κ1 := .v) p2 fun y m3 iv H3 S3 nx3 hm3 rs3 rep3 p3 => ?_
  split at p3
  · rename_i k j
    split at p3
    · rename_i xs hx
      split at p3
      · rename_i q hq
        have rt := (rep2.keep nx3).tree fun z => z
        cases rt with
        | obj hk =>
          rename_i a
          rw [← hm3] at hx
          obtain ⟨vs, eh, rr⟩ := rs3.g.cell k a (.lst xs) hk hx
          have rv : Rep T S3.io H3 v d := (Rep.mono (nx2.trans nx3).kp (nx2.trans nx3).io rep1)
          refine ⟨a, vs, j, q, rfl, rep3.int, eh, by rw [rr.length]; exact hq, ?_⟩
          have kp : Keep H3 (upd H3 a (.lst (vs.set q v))) := Keep.upd (.inr (by rw [eh]; trivial))
          obtain ⟨rs4, kp⟩ := rs3.cellw (o := .lst (vs.set q v)) (c' := .lst (xs.set q d)) hk hx ⟨_, upd_same, (rr.mono kp (List.prefix_refl _)).set q (Rep.mono kp (List.prefix_refl _) rv)⟩
          exact p3 { S3 with mu := S3.mu.set k (.lst (xs.set q d)) } σ _ ⟨rfl, rfl, List.prefix_refl _, kp⟩ (by rw [← hm3]) rs4
      · exact p3.elim
    · exact p3.elim
  · exact p3.elim
/-! ### unpacking -/
theorem PG.or {e : Expr} {g1 g2 : TG} (h1 : PG X e g1) (h2 : PG X e g2) : PG X e (fun v σ H Q => g1 v σ H Q ∨ g2 v σ H Q) :=
  ⟨fun pins s σ H v u Q I r h => h.elim (h1.run pins s σ H v u Q I r) (h2.run pins s σ H v u Q I r)⟩
theorem Es.unp {l : List Nat} {es : List Expr} {k : Nat} {p2 : Pos} {e : Expr} {g : GE} (hX : X.K = T.K) (hc : X.calm = true) (he : Ev X T .v e g) (hg : PGs X es (gNs l))
    (hn : (assignEach es X.env).length = l.length := by rfl) (hst : (assignEach es X.env).findIdx? (·.1) = none := by rfl)
    (hs : swapsWithSole [.Tuple es k p2] e pos.line X.env = pure false := by rfl) (hw : swappedStores [.Tuple es k p2] e X.env = pure none := by rfl)
    (h1 : (assignEach [.Tuple es k p2] X.env).map (·.2) = [assign (.Tuple es k p2) X.env] := by rfl) : Es X T (.Assign [.Tuple es k p2] e pos) (sUnp l g) := by
  intro W tk S t σ H E r p
  refine PS.w (L2.ps_asg (wE_pe X e) (PG.or (L2.pg_unl hc hg hn hst) (L2.pg_tup hc hg hn hst)) hs hw h1) ?_
  refine he W tk S t σ H _ r (SPost.bind (κ1 := .v) p fun d m v H' S' nx hm rs rep p' => ?_)
  have fin : ∀ (ds : List D) (vs : List V) (t' : Fr), setAll l ds t = some t' → Reps T S'.io H' vs ds → SPost X T W S' H' E (.next t' m) → vs.length = l.length ∧ gNs l vs σ H' E.nx := fun ds vs t' e1 rr p2 => by
    refine ⟨by rw [rr.length]; exact (setAll_len e1).symm, setAll_ok rs e1 rr fun σ' r' _ => ?_⟩
    exact p2 { S' with ps := setPs l S'.ps } σ' H' NxtS.ps hm r'
  cases q : itemsOf d with
  | none => rw [q] at p'; exact p'.elim
  | some ds =>
    rw [q] at p'
    have p' : SPost X T W S' H' E (match setAll l ds t with
      | some t' => .next t' m
      | none => .bad) := p'
    cases e1 : setAll l ds t with
    | none => rw [e1] at p'; exact p'.elim
    | some t' =>
      rw [e1] at p'
      cases d with
      | lst xs =>
        cases q
        obtain ⟨a, vs, rfl, sq, rr⟩ := rep.sq rs
        obtain ⟨h1, h2⟩ := fin _ vs t' e1 rr p'
        exact .inl ⟨a, vs, rfl, by rw [hX]; exact sq, h1, h2⟩
      | tup xs =>
        cases q
        obtain ⟨a, vs, rfl, sq, rr⟩ := rep.tq
        obtain ⟨h1, h2⟩ := fin _ vs t' e1 rr p'
        exact .inr ⟨a, vs, rfl, by rw [hX]; exact sq, h1, h2⟩
      | _ => cases q
/-! ### calls with keywords -/
abbrev wK (X : Cx) (kws : List Keyword) : L2.TA := fun σ H Q => ∀ (pos : Pos) (pins : List (Addr × Obj)) (s : Shared), Inv X pins σ H s → wpAny (model X.prog X.w) X.A (evalAll ((backToKw pos (keywordEach kws X.env)).map (·.2))) (AP X pins σ Q) X.xe s
theorem wK_pk (X : Cx) (kws : List Keyword) : PK X kws (wK X kws) := ⟨fun pos pins s _ _ _ I h => h pos pins s I⟩
theorem PK.w {kws : List Keyword} {ta : L2.TA} (p : PK X kws ta) {Q : List V → Hp → Prop} (h : ta σ H Q) : wK X kws σ H Q := fun pos pins s I => p.run pos pins s σ H Q I h
def Ek (X : Cx) (T : Tab) (kws : List Keyword) (g : GA) : Prop :=
  ∀ (W : WX), Takes X W → ∀ (S : Sx) (t : Fr) (σ : L2.St) (H : Hp) (Q : List V → Hp → Prop), RS T S t σ H → APost X T .t W S t σ H Q (g t S.mu) → wK X kws σ H Q
theorem Ek.nil : Ek X T [] gNil := fun W tk S t σ H Q r p => PK.w L2.pk_nil (p [] H S (Nxt.refl _ _) rfl r .nil)
theorem Ek.cons {e : Expr} {kws : List Keyword} {ge : GE} {gs : GA} {nm : Option Str} {kpos : Pos} (he : Ev X T .t e ge) (hs : Ek X T kws gs) : Ek X T (⟨nm, e, kpos⟩ :: kws) (gCons ge gs) := by
  intro W tk S t σ H Q r p
  refine PK.w (L2.pk_cons (wE_pe X e) (wK_pk X kws)) ?_
  refine he W tk S t σ H _ r ?_
  have p : APost X T .t W S t σ H Q ((ge t S.mu).bind fun x m => (gs t m).bind fun xs m => .ok (x :: xs) m) := p
  cases h1 : ge t S.mu with
  | ok d m =>
    rw [h1] at p
    intro v H1 S1 nx hm rs rep
    refine hs W tk S1 t σ H1 _ rs ?_
    rw [hm]
    have p : APost X T .t W S t σ H Q ((gs t m).bind fun xs m => .ok (d :: xs) m) := p
    cases h2 : gs t m with
    | ok ds m2 =>
      rw [h2] at p
      intro vs H2 S2 nx2 hm2 rs2 rep2
      exact p (v :: vs) H2 S2 (nx.trans nx2) hm2 rs2 (.cons (rep.keepS trivial nx2) rep2)
    | exc c fs m2 =>
      rw [h2] at p
      exact fun dx H2 S2 n2 => p dx H2 S2 (nx.trans n2)
    | bad => rw [h2] at p; exact p.elim
  | exc c fs m2 => rw [h1] at p; exact p
  | bad => rw [h1] at p; exact p.elim
/-- the arguments in the parameters' order: the k-th parameter gets argument pm[k] -/
def gPerm (pm : List Nat) (g : GA) : GA := fun t m => (g t m).bind fun ds m => .ok (pm.filterMap fun i => ds[i]?) m
/-- how the call's names bind: the k-th parameter gets the argument pm[k] -/
def KB (K : PySem.W.Frag) (fd : FuncData) (ps : List Str) (np : Nat) (ks : List Str) (pm : List Nat) : Prop :=
  ∀ (s : Shared) (us ws : List Value), K.In s.heap → us.length = np → ws.length = ks.length → BindsTo s fd ⟨us, ks.zip ws⟩ (ps.zip (pm.filterMap fun i => (us ++ ws)[i]?))
theorem vals_pick {vs : List V} {us : List Value} (r : Vals vs us) : ∀ pm : List Nat, Vals (pm.filterMap fun i => vs[i]?) (pm.filterMap fun i => us[i]?)
  | [] => .nil
  | i :: pm => by
    rw [List.filterMap_cons, List.filterMap_cons]
    cases h : vs[i]? with
    | none => rw [L2.Vals.none_of r h]; exact vals_pick r pm
    | some v =>
      obtain ⟨u, e, rv⟩ := L2.Vals.get r h
      rw [e]
      exact .cons rv (vals_pick r pm)
theorem reps_pick {io : List Addr} {vs : List V} {ds : List D} (r : Reps T io H vs ds) : ∀ pm : List Nat, Reps T io H (pm.filterMap fun i => vs[i]?) (pm.filterMap fun i => ds[i]?)
  | [] => .nil
  | i :: pm => by
    rw [List.filterMap_cons, List.filterMap_cons]
    cases h : ds[i]? with
    | none =>
      rw [List.getElem?_eq_none_iff] at h
      rw [List.getElem?_eq_none (by rw [r.length]; exact h)]
      exact reps_pick r pm
    | some d =>
      obtain ⟨v, e, rv⟩ := r.get h
      rw [e]
      exact .cons rv (reps_pick r pm)
/-- a def of the module that is called by names -/
structure CalK (T : Tab) (P : Program) (w : World) (mg : Str → Option Value) (base : Heap) (k : Nat) (x : Str) (n : Nat) (f : DF) (np : Nat) (ks : List Str) (pm : List Nat) : Prop where
  ex : ∃ (a : Addr) (fd : FuncData) (ps : List Str), FnG P w T.K mg base k a fd ps (spT T n f) ∧ mg x = some (.ref a) ∧ PySem.W.keepIn T.K (.ref a) = true ∧ KB T.K fd ps np ks pm ∧ ps.length = n
  bad : ∀ ds mu, ds.length ≠ n → f ds mu = .bad
/-- f(k = e, ..), f a def of the module -/
theorem Ev.callK0 {P : Program} {w : World} {mg : Str → Option Value} {base : Heap} {k j n : Nat} {x : Str} {f : DF} {p : Pos} {kws : List Keyword} {g : GA} {ks : List Str} {pm : List Nat} (c : CalK T P w mg base k x n f 0 ks pm)
    (hX : X.prog = P ∧ X.w = w ∧ X.K = T.K ∧ X.mg = mg ∧ X.base = base) (hr : Room j X.A) (hgd : X.A.guards = some []) (hk : k ≤ j) (hg : Gl X x)
    (ha : Ek X T kws g) (hl : kws.length = ks.length) (hdb : (x == ("__debug__" : Str)) = false := by decide) (hall : (backToKw pos (keywordEach kws X.env)).all (·.1.isSome) = true := by rfl) (hks : (backToKw pos (keywordEach kws X.env)).filterMap (·.1) = ks := by rfl)
    (hpl : ((backTo pos (starEach [] X.env)).any (·.1) || (backToKw pos (keywordEach kws X.env)).any (·.1.isNone)) = false := by rfl) (hlen : ∀ t m ds m', g t m = .ok ds m' → ds.length = ks.length) :
    Ev X T .f (.Call (.Name x p) [] kws pos) (gCall (dfM f) (gPerm pm g)) := by
  obtain ⟨rfl, rfl, hK, rfl, rfl⟩ := hX
  intro W tk S t σ H Q r q
  obtain ⟨a, fd, ps, F, hm, kp, b, hps⟩ := c.ex
  rw [← hK] at F kp b
  intro pins s I
  have key := ha W tk S t σ H (fun vs H1 => vs.length = ks.length ∧ spT T n f (pm.filterMap fun i => vs[i]?) H1 Q (fun c d H' => W c d σ H')) r ?_
  · refine wpAny_Call_Name_kw (L2.ld_glob I hg hm ?_ hdb)
    refine PySem.W.callWith_KW0 (h₀ := X.base) I.ok.mod.kin kp hall (L2.thn (key pos pins s I) fun us s1 ⟨vs, H1, I1, r1, hv, z⟩ => ⟨I1.kIn, ?_⟩) hpl
    rw [hks]
    have hb := b s1 [] us I1.kIn rfl (by rw [← r1.length]; exact hv)
    exact wpAny_call (codeAny_mono ((F.mono hk).go hr hgd tk I1 hb (vals_pick r1 pm) z) fun r s' y => by
      match r, y with
      | .error e, y => exact y
      | .ok (.ret u), y => exact y)
  · have q : EPost X T .f W S t σ H Q (((g t S.mu).bind fun ds m => .ok (pm.filterMap fun i => ds[i]?) m).bind fun xs m => dfM f xs m) := q
    cases e : g t S.mu with
    | bad => rw [e] at q; exact q.elim
    | exc c fs m => rw [e] at q; exact q
    | ok ds m =>
      rw [e] at q
      have q : EPost X T .f W S t σ H Q (dfM f (pm.filterMap fun i => ds[i]?) m) := q
      intro vs H' S' nx hm' rs rep
      refine ⟨by rw [rep.s.length]; exact hlen _ _ _ _ e, ?_⟩
      have q := EPost.shift nx q
      have rp := reps_pick rep.s pm
      have hl : (pm.filterMap fun i => vs[i]?).length = n := by
        rw [rp.length]
        refine Classical.byContradiction fun z => ?_
        unfold dfM out1 at q
        rw [c.bad _ m z] at q
        exact q
      rw [← hm'] at q
      exact spT_call rs hl rp q
/-- f(k = e, ..), f a def of the module -/
theorem Ev.callKN {P : Program} {w : World} {mg : Str → Option Value} {base : Heap} {k j n : Nat} {x : Str} {f : DF} {p : Pos} {kws : List Keyword} {g : GA} {ks : List Str} {pm : List Nat} (c : CalK T P w mg base k x n f 0 ks pm)
    (hX : X.prog = P ∧ X.w = w ∧ X.K = T.K ∧ X.mg = mg ∧ X.base = base) (hr : Room j X.A) (hgd : X.A.guards = some []) (hk : k ≤ j) (hg : Gl X x)
    (ha : Ek X T kws g) (hl : kws.length = ks.length) (hdb : (x == ("__debug__" : Str)) = false := by decide) (hall : (backToKw pos (keywordEach kws X.env)).all (·.1.isSome) = true := by rfl) (hks : (backToKw pos (keywordEach kws X.env)).filterMap (·.1) = ks := by rfl)
    (hpl : ((backTo pos (starEach [] X.env)).any (·.1) || (backToKw pos (keywordEach kws X.env)).any (·.1.isNone)) = false := by rfl) (hlen : ∀ t m ds m', g t m = .ok ds m' → ds.length = ks.length) :
    Ev X T .n (.Call (.Name x p) [] kws pos) (gCall (dfN f) (gPerm pm g)) := by
  obtain ⟨rfl, rfl, hK, rfl, rfl⟩ := hX
  intro W tk S t σ H Q r q
  obtain ⟨a, fd, ps, F, hm, kp, b, hps⟩ := c.ex
  rw [← hK] at F kp b
  intro pins s I
  have key := ha W tk S t σ H (fun vs H1 => vs.length = ks.length ∧ spT T n f (pm.filterMap fun i => vs[i]?) H1 Q (fun c d H' => W c d σ H')) r ?_
  · refine wpAny_Call_Name_kw (L2.ld_glob I hg hm ?_ hdb)
    refine PySem.W.callWith_KW0 (h₀ := X.base) I.ok.mod.kin kp hall (L2.thn (key pos pins s I) fun us s1 ⟨vs, H1, I1, r1, hv, z⟩ => ⟨I1.kIn, ?_⟩) hpl
    rw [hks]
    have hb := b s1 [] us I1.kIn rfl (by rw [← r1.length]; exact hv)
    exact wpAny_call (codeAny_mono ((F.mono hk).go hr hgd tk I1 hb (vals_pick r1 pm) z) fun r s' y => by
      match r, y with
      | .error e, y => exact y
      | .ok (.ret u), y => exact y)
  · have q : EPost X T .n W S t σ H Q (((g t S.mu).bind fun ds m => .ok (pm.filterMap fun i => ds[i]?) m).bind fun xs m => dfN f xs m) := q
    cases e : g t S.mu with
    | bad => rw [e] at q; exact q.elim
    | exc c fs m => rw [e] at q; exact q
    | ok ds m =>
      rw [e] at q
      have q : EPost X T .n W S t σ H Q (dfN f (pm.filterMap fun i => ds[i]?) m) := q
      intro vs H' S' nx hm' rs rep
      refine ⟨by rw [rep.s.length]; exact hlen _ _ _ _ e, ?_⟩
      have q := EPost.shift nx q
      have rp := reps_pick rep.s pm
      have hl : (pm.filterMap fun i => vs[i]?).length = n := by
        rw [rp.length]
        refine Classical.byContradiction fun z => ?_
        unfold dfN outN at q
        rw [c.bad _ m z] at q
        exact q
      rw [← hm'] at q
      exact spT_callN rs hl rp q
end
end TL
set_option Elab.async false
set_option linter.all false
set_option maxRecDepth 100000
set_option maxHeartbeats 3200000
/-! TLs: sets of texts: what they are in the heap, add, set(list), sorted(set). -/
namespace TL
open PySem PySem.Spec
open PyProof.Rows hiding St
open L2 (V HO Hp Cx Inv VK Ris ris_insert layNew_ris layNew_led relayAll_ris relayAll_led store_at collect_set)
/-- a text of an entry -/
def txt (e : Int × Value) : Str := match e.2 with | .str x _ => x | _ => Str.empty
def GoodS (w : World) (e : Int × Value) : Prop := ∃ x tk, e.2 = Value.str x tk ∧ e.1 = hashStr w x
/-- at a stands the set of the texts L, each once -/
structure SetS (w : World) (h : Heap) (a : Addr) (L : List Str) : Prop where
  ex : ∃ o es ep t, h.get? a = some o ∧ o.ExactSet ∧ o.data = .set es ep t ∧ (∀ e ∈ es.toList, GoodS w e) ∧ (es.toList.map txt).Perm L ∧ es.size < scanBound ∧ t.fits es.size = true ∧ Ris t.place.toList ∧ (w.params.followText "set-order" = true ∨ t.led = true)
  nd : L.Nodup
def insS (k : Str) (L : List Str) : List Str := if k ∈ L then L else k :: L
theorem insS_len (k : Str) (L : List Str) : (insS k L).length ≤ L.length + 1 := by
  unfold insS; split
  · omega
  · simp
theorem mem_insS {k x : Str} {L : List Str} : x ∈ insS k L ↔ x = k ∨ x ∈ L := by
  unfold insS
  split
  · rename_i h
    exact ⟨.inr, fun z => z.elim (fun e => e ▸ h) id⟩
  · exact List.mem_cons
theorem insS_nd {k : Str} {L : List Str} (h : L.Nodup) : (insS k L).Nodup := by
  unfold insS; split
  · exact h
  · rename_i q; exact List.nodup_cons.mpr ⟨q, h⟩
section
variable {P : Program} {w : World} {A : Around} {E : Value → Shared → Prop} {s : Shared} {a : Addr} {L : List Str}
theorem SetS.at {h h' : Heap} (R : SetS w h a L) (k : ∀ o, h.get? a = some o → h'.get? a = some o) : SetS w h' a L := by
  obtain ⟨⟨o, es, ep, t, ho, r⟩, nd⟩ := R
  exact ⟨⟨o, es, ep, t, k o ho, r⟩, nd⟩
theorem str_is (x : Str) (tk : Tok) : (strKind P w).is x (.str x tk) = true := strKind_is _ _ _ _
theorem goods_elems {l : List (Int × Value)} (g : ∀ e ∈ l, GoodS w e) : ElemsOf (strKind P w) l := fun e he => by
  obtain ⟨x, tk, h1, h2⟩ := g e he
  exact ⟨⟨x, by rw [h1]; exact str_is x tk, h2⟩, by rw [h1]; rfl⟩
theorem goods_is {e : Int × Value} (g : GoodS w e) (k : Str) : (strKind P w).is k e.2 = true ↔ txt e = k := by
  obtain ⟨x, tk, h1, _⟩ := g
  unfold txt
  rw [h1]
  refine ⟨fun q => (strKind P w).inj _ _ _ (str_is x tk) q, fun q => by rw [← q]; exact str_is x tk⟩
theorem goods_mem {l : List (Int × Value)} (g : ∀ e ∈ l, GoodS w e) (k : Str) : k ∈ l.map txt ↔ ∃ e ∈ l, (strKind P w).is k e.2 = true := by
  rw [List.mem_map]
  exact ⟨fun ⟨e, he, q⟩ => ⟨e, he, (goods_is (g e he) k).2 q⟩, fun ⟨e, he, q⟩ => ⟨e, he, (goods_is (g e he) k).1 q⟩⟩
theorem SetS.setOf (R : SetS w s.heap a L) : s.heap.SetOf (strKind P w) a (fun k => decide (k ∈ L)) L.length := by
  obtain ⟨⟨o, es, ep, t, ho, hx, hd, g, pm, hb, hf, _⟩, nd⟩ := R
  refine ⟨o, es, ep, t, ho, hx, hd, goods_elems g, fun k => ?_, hb, hf, ?_⟩
  · rw [decide_eq_true_iff, ← pm.mem_iff]; exact goods_mem g k
  · rw [← pm.length_eq, List.length_map, Array.length_toList]
theorem rule_or {b : Bool} {i : String} {s₁ : Shared} {Q' : Unit → Shared → Prop} (q : Q' () s₁) : wpAny (model P w) A (match b with | true => rule i | false => pure ()) Q' E s₁ := by
  cases b
  · exact wpAny_pure q
  · exact wpAny_rule q
/-- the store behind an insertion, relaid where it has grown too full -/
theorem setS_tail {g : Bool → Sem Unit} (hg : ∀ (b : Bool) (s₁ : Shared) (Q' : Unit → Shared → Prop), Q' () s₁ → wpAny (model P w) A (g b) Q' E s₁)
    {o : Obj} {es : Array (Int × Value)} {ep : Nat} {t : SetTable} (ho : s.heap.get? a = some o) (hex : o.ExactSet) (hd : o.data = .set es ep t)
    {es1 : Array (Int × Value)} {t2 : SetTable} (g1 : ∀ e ∈ es1.toList, GoodS w e) (p1 : (es1.toList.map txt).Perm L) (nd : L.Nodup)
    (hb1 : es1.size < scanBound) (hf2 : t2.fits es1.size = true) (hr : Ris t2.place.toList) (hl : w.params.followText "set-order" = true ∨ t2.led = true) {wasDummy : Bool} {R : Option Bool → Shared → Prop}
    (hR : ∀ h', Heap.SameBut a s.heap h' → SetS w h' a L → R (some true) { s with heap := h' }) :
    wpAny (model P w) A (do
        storeSet a es1 t2
        if (!wasDummy && t2.tooFull) = true then do
            g (relayAll t2 es1 (SetTable.grown es1.size)).2.2
            storeSet a (relayAll t2 es1 (SetTable.grown es1.size)).1 (relayAll t2 es1 (SetTable.grown es1.size)).2.1
            pure (some true)
          else pure (some true)) R E s := by
  refine wpAny_bind (wpAny_storeSet_of ho hd ?_ (fits_of_scanBound hb1))
  have e1 := store_at (es' := es1) (t' := t2) ho hd
  have u1 := Heap.SameBut.update s.heap a (Obj.putSet es1 t2)
  split
  · have pm := relayAll_perm t2 es1 (SetTable.grown es1.size)
    have f3 := relayAll_fits t2 es1 (SetTable.grown es1.size)
    have r3 := relayAll_ris t2 es1 (SetTable.grown es1.size)
    have l3 := relayAll_led t2 es1 (SetTable.grown es1.size)
    generalize relayAll t2 es1 (SetTable.grown es1.size) = Z at pm f3 r3 l3 ⊢
    obtain ⟨es2, t3, gave⟩ := Z
    dsimp only at pm f3 r3 l3 ⊢
    have hb2 : es2.size < scanBound := by
      have z : es2.size = es1.size := by rw [← Array.length_toList, pm.length_eq, Array.length_toList]
      rw [z]; exact hb1
    refine wpAny_bind (hg _ _ _ ?_)
    refine wpAny_bind (wpAny_storeSet_of e1 rfl ?_ (fits_of_scanBound hb2))
    have e2 := store_at (es' := es2) (t' := t3) e1 rfl
    exact wpAny_pure (hR _ (u1.trans (Heap.SameBut.update _ a _)) ⟨⟨_, es2, _, t3, e2, hex, rfl, fun e he => g1 e (pm.mem_iff.mp he), (pm.map txt).trans p1, hb2, f3, r3, hl.imp id fun z => by rw [l3]; exact z⟩, nd⟩)
  · exact wpAny_pure (hR _ u1 ⟨⟨_, es1, _, t2, e1, hex, rfl, g1, p1, hb1, hf2, hr, hl⟩, nd⟩)
theorem setS_add_hashed {k : Str} {tk : Tok} {Q : Bool → Shared → Prop} (R : SetS w s.heap a L) (room : L.length + 1 < scanBound)
    (hQ : ∀ b h', Heap.SameBut a s.heap h' → SetS w h' a (insS k L) → Q b { s with heap := h' }) :
    wpAny (model P w) A (setAddHashed a (.str k tk) ((strKind P w).hash k)) Q E s := by
  obtain ⟨⟨o, es, ep, t, ho, hex, hd, g, pm, hb, hf, hr, hl⟩, nd⟩ := id R
  have hkey : (strKind P w).is k (.str k tk) = true := str_is k tk
  have hsc : (Value.str k tk).scannable = true := rfl
  have hel : ElemsOf (strKind P w) es.toList := goods_elems g
  unfold setAddHashed setAddHashedIn
  refine wpAny_holding (wpAny_bind (wpAny_setState_of ho hd hf ?_))
  dsimp only
  rw [byScan_of hsc hb hel]
  simp only [↓reduceIte]
  unfold setAddByScan
  refine wpAny_bind ?_
  refine wpAny_bind (wpAny_rule ?_)
  refine wpAny_bind (wpAny_setScan_of hkey ho hd hf hel ?_)
  cases hfi : List.findIdx? (fun e => (strKind P w).is k e.2) es.toList with
  | some j =>
    dsimp only
    obtain ⟨hj, pj, _⟩ := List.findIdx?_eq_some_iff_getElem.mp hfi
    have hk : k ∈ L := pm.mem_iff.mp ((goods_mem (P := P) g k).2 ⟨es.toList[j], List.getElem_mem hj, pj⟩)
    have q := hQ false s.heap (Heap.SameBut.refl a s.heap) (by unfold insS; rw [if_pos hk]; exact R)
    exact wpAny_pure (wpAny_pure q)
  | none =>
    dsimp only
    have hnk : k ∉ L := fun z => by
      obtain ⟨e, he, q⟩ := (goods_mem (P := P) g k).1 (pm.mem_iff.mpr z)
      have c := List.findIdx?_eq_none_iff.mp hfi e he
      rw [q] at c
      cases c
    have nd' : (k :: L).Nodup := List.nodup_cons.mpr ⟨hnk, nd⟩
    have pl := layNew_perm t es ((strKind P w).hash k) (.str k tk)
    have hf1 := layNew_fits t es ((strKind P w).hash k) (.str k tk)
    have hr1 := layNew_ris t es ((strKind P w).hash k) (.str k tk) hr
    have hl1 := layNew_led t es ((strKind P w).hash k) (.str k tk)
    generalize layNew t es ((strKind P w).hash k) (.str k tk) = Z at pl hf1 hr1 hl1 ⊢
    obtain ⟨es1, t1, wasDummy, gave⟩ := Z
    dsimp only at pl hf1 hr1 hl1 ⊢
    rw [Array.toList_push] at pl
    have pc : es1.toList.Perm (((strKind P w).hash k, Value.str k tk) :: es.toList) := pl.trans (List.perm_append_singleton _ _)
    have g1 : ∀ e ∈ es1.toList, GoodS w e := fun e he => by
      rcases List.mem_cons.mp (pc.mem_iff.mp he) with z | z
      · rw [z]; exact ⟨k, tk, rfl, rfl⟩
      · exact g e z
    have p1 : (es1.toList.map txt).Perm (k :: L) := (pc.map txt).trans (List.Perm.cons k pm)
    have hb1 : es1.size < scanBound := by
      have z : es1.size = L.length + 1 := by
        have q := p1.length_eq
        rw [List.length_map, Array.length_toList] at q
        exact q
      rw [z]; exact room
    have hled : w.params.followText "set-order" = true ∨ t1.led = true := hl.imp id fun z => by rw [hl1]; exact z
    have fin : ∀ h', Heap.SameBut a s.heap h' → SetS w h' a (k :: L) → Q true { s with heap := h' } := fun h' sb r => hQ true h' sb (by unfold insS; rw [if_neg hnk]; exact r)
    refine wpAny_bind (rule_or ?_)
    split
    · refine wpAny_bind ?_
      rw [hashByValue_scannable 8 hsc]
      refine wpAny_pure ?_
      refine setS_tail ?_ ho hex hd g1 p1 nd' hb1 ?_ ?_ ?_ ?_
      · intro b s₁ Q' q; exact rule_or q
      · first | (split <;> first | exact hf1 | exact SetTable.fits_plain_off hf1) | exact hf1
      · first | (split <;> exact hr1) | exact hr1
      · first | (split <;> exact hled) | exact hled
      · intro h' sb r; dsimp only; exact wpAny_pure (fin h' sb r)
    · refine wpAny_bind (wpAny_pure ?_)
      simp only [↓reduceIte]
      refine setS_tail ?_ ho hex hd g1 p1 nd' hb1 hf1 hr1 hled ?_
      · intro b s₁ Q' q; exact rule_or q
      · intro h' sb r; dsimp only; exact wpAny_pure (fin h' sb r)
theorem setS_add {k : Str} {tk : Tok} {Q : Value → Shared → Prop} (R : SetS w s.heap a L) (room : L.length + 1 < scanBound)
    (hQ : ∀ h', Heap.SameBut a s.heap h' → SetS w h' a (insS k L) → Q .none { s with heap := h', toks := s.toks + 1 }) :
    wpAny (model P w) A (call (.builtin "set.add") [.ref a, .str k tk]) Q E s := by
  have hS : s.heap.SetOf (strKind P w) a _ _ := R.setOf
  refine wpAny_call_entry F.slot_set_add hS.typeIs F.entry_set_add ?_ (F.args_set_add_2 _ _)
  unfold Builtin.«set.add» Builtin.Frozenset.oneOther
  simp only [List.isEmpty_nil, bind_assoc]
  unfold Builtin.Frozenset.addrOf setAdd
  refine wpAny_bind (wpAny_pure ?_)
  try dsimp only
  refine wpAny_bind (wpAny_pure ?_)
  try dsimp only
  refine wpAny_bind ?_
  refine wpAny_holding ?_
  refine wpAny_bind ((strKind P w).pyHash (str_is k tk) ?_)
  refine setS_add_hashed (s := { s with toks := s.toks + 1 }) R room fun b h' sb r => ?_
  show wpAny _ _ (PySem.ret Value.none) _ _ _
  exact wpAny_pure ⟨_, rfl, hQ h' sb r⟩
theorem setS_fresh {h : Heap} (w : World) : SetS w (h.push { cls := .type "set", dict := none, data := .set #[] 0 (.fresh 0 0 (!w.params.followText "set-order")) }) h.objs.size [] :=
  ⟨⟨_, #[], 0, _, Heap.get?_push_size _ rfl, ⟨rfl, rfl, rfl⟩, rfl, (fun e he => by simp at he), (by simp), (by decide), (by rfl), List.Pairwise.nil, by
    show _ ∨ (!w.params.followText "set-order") = true
    cases w.params.followText "set-order"
    · exact .inr rfl
    · exact .inl rfl⟩, List.nodup_nil⟩
/-! ### set(list) -/
def insAll : List Str → List Str → List Str
  | [], L => L
  | x :: xs, L => insAll xs (insS x L)
theorem insAll_len : ∀ (xs L : List Str), (insAll xs L).length ≤ L.length + xs.length
  | [], L => by simp [insAll]
  | x :: xs, L => by
    have h := insAll_len xs (insS x L)
    have h2 := insS_len x L
    simp only [insAll, List.length_cons]
    omega
theorem mem_insAll {x : Str} : ∀ {xs L : List Str}, x ∈ insAll xs L ↔ x ∈ xs ∨ x ∈ L
  | [], L => by simp [insAll]
  | y :: ys, L => by
    simp only [insAll]
    rw [mem_insAll, mem_insS, List.mem_cons]
    constructor
    · rintro (h | h | h)
      · exact .inl (.inr h)
      · exact .inl (.inl h)
      · exact .inr h
    · rintro ((h | h) | h)
      · exact .inr (.inl h)
      · exact .inl h
      · exact .inr (.inr h)
theorem insAll_nd : ∀ {xs L : List Str}, L.Nodup → (insAll xs L).Nodup
  | [], _, h => h
  | x :: xs, L, h => insAll_nd (xs := xs) (L := insS x L) (insS_nd h)
theorem set_update {I : Addr} {fp wr : List Addr} {G : Array GenState → Array GenState → Prop} {n : Nat} {Pv : Nat → Value → Prop} {St : Nat → Shared → Prop} {R : Result → Shared → Prop}
    (W : WalksS P w A.in1 I fp wr G n Pv St) (S : Addr) (hSf : S ∉ fp) (xs : List Str) (hn : n = xs.length) (hval : ∀ i v, Pv i v → ∃ k t, xs[i]? = some k ∧ v = .str k t) :
    ∀ (k i : Nat) (s : Shared) (L : List Str), n - i = k → i ≤ n → St i s → L.length + k + 1 < scanBound → SetS w s.heap S L →
      (∀ s', Moved (S :: wr) G s s' → SetS w s'.heap S (insAll (xs.drop i) L) → R (.ok (.ret .none)) s') →
      codeAny (model P w) A (.builtin "set.update.loop" ⟨[.ref S, .ref I], []⟩) R s := by
  have hSw : S ∉ wr := fun h => hSf (W.sub _ h)
  have hsub : ∀ b ∈ wr, b ∈ S :: wr := fun b hb => List.mem_cons_of_mem _ hb
  intro k
  induction k with
  | zero =>
    intro i s L hk' hi hst hb hS hR
    have hin : i = n := by omega
    subst hin
    refine codeAny_builtin F.entry_set_update_loop ?_
    rw [Around.under_plainId F.plain_set_update_loop _]
    show wpAny _ A.in1 (pyNext (.ref I) >>= _) _ _ s
    refine wpAny_bind (W.done s _ _ hst fun s' hm => ?_)
    show wpAny _ A.in1 (PySem.ret Value.none) _ _ s'
    have e : xs.drop i = [] := List.drop_of_length_le (by omega)
    rw [e] at hR
    exact wpAny_pure (hR s' (hm.mono hsub) (hS.at fun o e => hm.heap S o hSw e))
  | succ k ih =>
    intro i s L hk' hi hst hb hS hR
    have hlt : i < n := by omega
    refine codeAny_builtin F.entry_set_update_loop ?_
    rw [Around.under_plainId F.plain_set_update_loop _]
    show wpAny _ A.in1 (pyNext (.ref I) >>= _) _ _ s
    refine wpAny_bind (W.item i s _ _ hlt hst fun v s' hP hst' hm => ?_)
    obtain ⟨z, t, hz, rfl⟩ := hval i v hP
    have hS' : SetS w s'.heap S L := hS.at fun o e => hm.heap S o hSw e
    show wpAny _ A.in1 (holding [Value.str z t] (setAdd S (.str z t)) >>= _) _ _ s'
    refine wpAny_bind (wpAny_holding ?_)
    unfold setAdd
    refine wpAny_holding ?_
    refine wpAny_bind ((strKind P w).pyHash (str_is z t) ?_)
    refine setS_add_hashed (s := { s' with toks := s'.toks + 1 }) hS' (by omega) fun b0 h' hsb hS2 => ?_
    have hil : (insS z L).length + k + 1 < scanBound := by
      have := insS_len z L
      omega
    refine wpAny_pure ⟨plainId_quiet F.plain_set_update_loop _, ih (i + 1) _ (insS z L) (by omega) hlt (W.frame _ s' _ _ hst' (Nat.le_succ _) fun b hb o e => ?_) hil hS2 fun s'' hm'' hS'' => ?_⟩
    · rw [hsb.2 b (fun h : b = S => hSf (by rw [← h]; exact hb))]; exact e
    · refine hR s'' (Moved.trans W.gtrans ((hm.mono hsub).then_heap (Nat.le_succ _) fun b o hb e => ?_) hm'') ?_
      · rw [hsb.2 b (fun h : b = S => hb (by rw [h]; exact List.mem_cons_self))]; exact e
      · have hl : i < xs.length := by omega
        have e : xs[i] = z := by
          rw [List.getElem?_eq_getElem hl] at hz
          exact Option.some.inj hz
        rw [List.drop_eq_getElem_cons hl, e]
        exact hS''
theorem call_set_texts {l : Addr} {items : Array Value} (xs : List Str) {Q : Value → Shared → Prop} (hh : A.handled = none) (hl : s.heap.IsList l items) (hit : StrsAre items.toList xs) (hb : xs.length + 1 < scanBound)
    (h : ∀ (h' : Heap) (tk : Nat), SetS w h' s.heap.objs.size (insAll xs []) → (∀ b o, s.heap.get? b = some o → h'.get? b = some o) → Q (.ref s.heap.objs.size) { s with heap := h', toks := tk }) :
    wpAny (model P w) A (call (.type "set") [.ref l]) Q E s := by
  have hisz : items.size = xs.length := by
    have q := StrsAre.len_eq hit
    rw [Array.length_toList] at q
    exact q
  obtain ⟨c, tl, hmro⟩ := F.called_set.mro
  have hmade := F.called_set.made
  have hsub := F.called_set.sub
  refine wpAny_call (codeAny_of_tree ?_)
  show wpAny _ _ (callAny (.type "set") _) _ _ _
  refine wpAny_pure ⟨Code.quiet_builtin _ (by decide +kernel), codeAny_builtin F.entry_type_call ?_⟩
  rw [Around.under_plain (weight_type_call_type "set" [.ref l] []) rfl]
  have h1 := F.called_set.notType
  have h2 := F.called_set.canCreate
  have hct := F.typeCall_set_1 (.ref l)
  repeat (any_goals (first | assumption | wp_step))
  refine codeAny_mono (L2.code_set_led1 (.ref l) (E := E) (Q₁ := fun obj s₁ => obj = .ref s.heap.objs.size ∧ s₁ = { s with heap := s.heap.push { cls := .type "set", dict := none, data := .set #[] 0 (.fresh 0 0 (!w.params.followText "set-order")) } }) ⟨rfl, rfl⟩) fun r s₁ hr => ?_
  cases r with
  | error e => exact hr
  | ok fl =>
    cases fl with
    | ret obj =>
      obtain ⟨rfl, rfl⟩ := hr
      have hS : (s.heap.push { cls := .type "set", dict := none, data := .set #[] 0 (.fresh 0 0 (!w.params.followText "set-order")) }).get? s.heap.objs.size = some { cls := .type "set", dict := none, data := .set #[] 0 (.fresh 0 0 (!w.params.followText "set-order")) } := Heap.get?_push_size _ rfl
      have hT : Shared.TypeIs { s with heap := s.heap.push { cls := .type "set", dict := none, data := .set #[] 0 (.fresh 0 0 (!w.params.followText "set-order")) } } (.ref s.heap.objs.size) "set" := ⟨_, hS, rfl⟩
      have hli := F.called_set.init.lookup
      have hbi := F.called_set.init.bind (.ref s.heap.objs.size)
      repeat (any_goals (first | assumption | wp_step))
      refine codeAny_mono (codeAny_call_builtin (R := wants (fun r s₂ => r = .none ∧ ∃ h' tk, s₂ = { s with heap := h', toks := tk } ∧ SetS w h' s.heap.objs.size (insAll xs []) ∧
          (∀ b o, s.heap.get? b = some o → h'.get? b = some o)) E) F.called_set.init.plain F.entry_set_init (check_set_init_1 hT ?_)) fun r₂ s₂ hr₂ => ?_
      · obtain ⟨ol, hol, hcl, nl, hdl⟩ := hl
        obtain ⟨ocls, odict, odata, oslots⟩ := ol
        simp only at hcl hdl
        subst hcl; subst hdl
        have hol' : (s.heap.push { cls := .type "set", dict := none, data := .set #[] 0 (.fresh 0 0 (!w.params.followText "set-order")) }).get? l = some { cls := .type "list", dict := odict, data := .seq items nl, slots := oslots } := Heap.get?_push_of_some _ hol
        have hsls := F.sub_list_set
        have hslf := F.sub_list_frozenset
        have hne : (Value.type "list" == Value.type "dict") = false := by decide
        have hl1 : (s.heap.push { cls := .type "set", dict := none, data := .set #[] 0 (.fresh 0 0 (!w.params.followText "set-order")) }).IsList l items := ⟨_, hol', rfl, nl, rfl⟩
        unfold Builtin.«set.__init__» noKeywords Builtin.Frozenset.updateFrom
        generalize hPI : pyIter = PI
        wp_walk
        subst hPI
        refine wpAny_pyIter_list hl1 ?_
        refine wpAny_bind (wpAny_runValue ?_)
        have hlS : l < s.heap.objs.size := Heap.lt_size hol
        have hh3 : A.in1.in1.in1.handled = none := by simp [hh]
        have hneI : l ≠ (s.heap.push { cls := .type "set", dict := none, data := .set #[] 0 (.fresh 0 0 (!w.params.followText "set-order")) }).objs.size := by
          rw [Heap.size_push]; exact Nat.ne_of_lt (Nat.lt_succ_of_lt hlS)
        have hSf : s.heap.objs.size ∉ [(s.heap.push { cls := .type "set", dict := none, data := .set #[] 0 (.fresh 0 0 (!w.params.followText "set-order")) }).objs.size, l] := by
          rw [Heap.size_push]; simp only [List.mem_cons, List.mem_singleton, List.not_mem_nil, or_false, not_or]
          exact ⟨Nat.ne_of_lt (Nat.lt_succ_self _), Nat.ne_of_gt hlS⟩
        have hval : ∀ (i : Nat) (v : Value), items[i]? = some v → ∃ k t, xs[i]? = some k ∧ v = .str k t := fun i v hv => by
          have hi : i < xs.length := by rw [← hisz]; exact (Array.getElem?_eq_some_iff.mp hv).1
          obtain ⟨t, e⟩ := SS.strs_at hit i v (by rw [Array.getElem?_toList]; exact hv)
          refine ⟨xs[i], t, List.getElem?_eq_getElem hi, ?_⟩
          rw [e, List.getD_eq_getElem?_getD, List.getElem?_eq_getElem hi] <;> rfl
        refine set_update ((Walks.list hh3 _ l hneI items).toS) s.heap.objs.size
          hSf xs hisz hval (items.size - 0) 0 _ [] (by omega) (Nat.zero_le _)
          ⟨⟨_, Heap.get?_push_size _ rfl, rfl, rfl⟩, (hl1.push _)⟩ (by rw [hisz]; simpa using hb) ?hS0 ?hR
        case hS0 =>
          have z := setS_fresh (h := s.heap) w
          exact z.at fun o e => Heap.get?_push_of_some _ e
        case hR =>
          intro s' hm hS'
          obtain ⟨h', g2, d', tk', os'⟩ := s'
          have eg : g2 = s.gens := hm.gens
          have ed : d' = s.drawn := hm.drawn
          have eo : os' = s.os := hm.os
          subst eg; subst ed; subst eo
          show wpAny _ _ _ _ _ _
          refine wpAny_pure ?_
          show wpAny _ _ (PySem.ret Value.none) _ _ _
          refine wpAny_pure ⟨rfl, h', tk', rfl, hS', fun b o e => ?_⟩
          have hb0 : b < s.heap.objs.size := Heap.lt_size e
          have hb1 : b ≠ s.heap.objs.size := Nat.ne_of_lt hb0
          have hb2 : b ≠ (s.heap.push { cls := .type "set", dict := none, data := .set #[] 0 (.fresh 0 0 (!w.params.followText "set-order")) }).objs.size := by
            rw [Heap.size_push]; exact Nat.ne_of_lt (Nat.lt_succ_of_lt hb0)
          exact hm.heap b o (by simp only [List.mem_cons, List.mem_singleton, List.not_mem_nil, or_false, not_or]; exact ⟨hb1, hb2⟩) (Heap.get?_push_of_some _ (Heap.get?_push_of_some _ e))
      · cases r₂ with
        | error e => exact hr₂
        | ok fl₂ =>
          cases fl₂ with
          | ret r =>
            obtain ⟨rfl, h', tk, rfl, hS', hk'⟩ := hr₂
            repeat (any_goals (first | assumption | wp_step))
            exact h _ _ hS' hk'
          | _ => exact hr₂.elim
    | _ => exact hr.elim
/-! ### sorted(set) -/
theorem strsAre_len : ∀ {vs : List Value} {xs : List Str}, StrsAre vs xs → vs.length = xs.length := fun h => StrsAre.len_eq h
theorem each_strs : ∀ {vs : List Value} {xs : List Str}, StrsAre vs xs → PySem.W.EachIs (fun v b => ∃ t, v = Value.str b t) vs xs
  | _, _, .nil => .nil
  | _, _, .cons x t h => .cons ⟨t, rfl⟩ (each_strs h)
theorem strs_each : ∀ {vs : List Value} {xs : List Str}, PySem.W.EachIs (fun v b => ∃ t, v = Value.str b t) vs xs → StrsAre vs xs
  | _, _, .nil => .nil
  | _, _, .cons ⟨t, e⟩ h => by rw [e]; exact .cons _ t (strs_each h)
theorem strs_of : ∀ (vs : List Value) (f : Value → Str), (∀ v ∈ vs, ∃ t, v = Value.str (f v) t) → StrsAre vs (vs.map f)
  | [], _, _ => .nil
  | v :: vs, f, h => by
    obtain ⟨t, e⟩ := h v List.mem_cons_self
    have r := strs_of vs f fun u hu => h u (List.mem_cons_of_mem _ hu)
    have c := StrsAre.cons (f v) t r
    rw [← e] at c
    exact c
def vStr (v : Value) : Str := match v with | .str x _ => x | _ => Str.empty
def tlS (x : Str) : Tx := x.cps.toList
theorem sorted_setS {Q : Value → Shared → Prop} (R : SetS w s.heap a L) (hh : A.handled = none) (hu : A.units + 3 < cLine)
    (hQ : ∀ s' p (out : List Value) (c : Nat) (zs : List Str), (∀ b o, s.heap.get? b = some o → s'.heap.get? b = some o) → s'.gens = s.gens → s'.os = s.os → s.heap.objs.size ≤ p →
      s'.heap.get? p = some (seqObj "list" out.toArray c) → StrsAre out zs → zs.map tlS = srtT (L.map tlS) → Q (.ref p) s') :
    wpAny (model P w) A (call (.builtin "sorted") [.ref a]) Q E s := by
  obtain ⟨⟨o, es, ep, t, ho, hex, hd, g, pm, hb, hf, hr, hl⟩, nd⟩ := R
  refine Calls.call_function_entry kind_sorted plain_sorted entry_sorted (args_sorted1 _) ?_
  unfold Builtin.«sorted»
  refine wpAny_bind (m := checkCount "sorted" 1 1 _) (wpAny_pure ?_)
  refine wpAny_bind (collect_set (A := A.in1) hh ⟨o, ho, hex.1, hd⟩ hf hb hr hl fun s1 vs k1 hz g1 o1 pm1 => ?_)
  have hI : StrsAre vs (vs.map vStr) := strs_of vs vStr fun v hv => by
    obtain ⟨e, he, q⟩ := List.mem_map.mp (pm1.mem_iff.mp hv)
    obtain ⟨x, tk, h1, _⟩ := g e he
    exact ⟨tk, by rw [← q, h1]; rfl⟩
  have pv : (vs.map vStr).Perm L := by
    have q := pm1.map vStr
    rw [List.map_map] at q
    exact q.trans pm
  have hlen : vs.length = es.size := by rw [pm1.length_eq, List.length_map, Array.length_toList]
  have hz2 : vs.length ≤ sizeLine := by rw [hlen]; exact fits_of_scanBound hb
  refine wpAny_bind (wpAny_newList ?_ hz2)
  have hoL : (s1.heap.push (seqObj "list" vs.toArray 0)).get? s1.heap.objs.size = some (seqObj "list" vs.toArray 0) := Heap.get?_push_size _ rfl
  refine wpAny_bind (wpAny_holding ?_)
  show wpAny _ _ (call (.builtin "list.sort") [.ref s1.heap.objs.size]) _ _ _
  have ei := each_strs hI
  refine PySem.W.list_sort_data (β := Str) (enc := PyData.str) hoL ei (ei.mono fun v b ⟨t, e⟩ => ⟨[], by rw [e]; exact .str b t, List.not_mem_nil⟩) (PySem.W.AllAlike.of fun _ _ => by simp [PySem.W.alike])
    (PySem.W.Sortable.others fun b => And.intro (fun z => PyData.noConfusion z) (fun xs z => PyData.noConfusion z)) (by rw [← ei.length]; exact hz2) (fun b _ => by simp only [PyData.depth]; show A.in1.units + 1 + 0 < cLine; simp only [Around.in1_units]; omega) fun out hl2 er => ?_
  have hd' : PySem.W.dataLe false PyData.str = fun a b => txLe (tlS a) (tlS b) := PySem.W.dataLe_str (fun x => x)
  rw [hd'] at er
  obtain ⟨c, hc⟩ := sortedHeap_at (vs := vs) (out := out.toArray) hoL
  refine wpAny_pure ⟨_, rfl, hQ _ s1.heap.objs.size out c _ (fun b u e => ?_) g1 o1 hz hc (strs_each er) ?_⟩
  · have q := k1 b u e
    have hlt := Heap.lt_size q
    show (sortedHeap (s1.heap.push (seqObj "list" vs.toArray 0)) s1.heap.objs.size vs out.toArray).get? b = some u
    rw [sortedHeap_old (Nat.ne_of_lt hlt) (by rw [size_push']; exact Nat.lt_succ_of_lt hlt)]
    exact Heap.get?_push_of_some _ q
  · rw [List.map_mergeSort (s := txLe) (f := tlS) (fun _ _ _ _ => rfl)]
    exact srtT_perm (pv.map tlS)
end
end TL
set_option Elab.async false
set_option linter.all false
set_option maxRecDepth 100000
set_option maxHeartbeats 2000000
/-! TLv: repr; sorted(set(..)). -/
namespace TL
open PySem PySem.Spec
open PyProof.Rows hiding St
open L2 (V HO Hp Cx Inv VK TE TS TO TI TG TGs TT It Ends SqL SqT upd upd_same upd_ne ne_of ne_of_none Rd Mut EP AP SP PE PS PSs PT PTs PO PG PGs PI PIE TP PK WX Takes RelV Vals Key kV Vis Loc Gl Room Dp DpAll BlkOk)
/-- what repr shows -/
def reprT (d : D) : Tx := tlS (toPy d).shown
def isSeq : D → Bool
  | .lst _ => true
  | .tup _ => true
  | _ => false
def dRepr : List D → Option D
  | [d] => if isSeq d = true ∧ fine d = true ∧ (toPy d).showable = true ∧ (reprT d).length ≤ LIM then some (.str (reprT d)) else none
  | _ => none
section
variable {X : Cx} {T : Tab} {κ κ1 κ2 : Kd} {W : WX} {S S' : Sx} {t : Fr} {σ : L2.St} {H H' : Hp} {Q Q1 : VK} {pos : Pos}
theorem FnS.repr (hX : X.K = T.K) (hgd : X.A.guards = some []) (hu : X.A.units + 65 < cLine) : FnS X T κ (.builtin "repr") dRepr := by
  intro S t σ H xs ds d Q r ra e k pins s us I ru
  unfold dRepr at e
  split at e
  · rename_i d0
    split at e
    · rename_i h
      obtain ⟨h1, h2, h3, h4⟩ := h
      cases e
      obtain ⟨v, rfl, rv⟩ := ra.one
      obtain ⟨u, rfl, ru2⟩ := L2.Vals.one ru
      obtain ⟨oa, sa⟩ := fine_sh h2
      have hd := rv.dp r oa
      rw [← hX] at hd
      obtain ⟨as, rd⟩ := Dp.reads I _ v u hd ru2
      have hv : ∃ a, u = .ref a := by
        cases d0 with
        | lst xs => obtain ⟨a, vs, rfl, _⟩ := rv.sq r; exact ⟨a, ru2⟩
        | tup xs => obtain ⟨a, vs, rfl, _⟩ := rv.tq; exact ⟨a, ru2⟩
        | _ => cases h1
      obtain ⟨a, rfl⟩ := hv
      have hdep : (toPy d0).depth ≤ 60 := by
        rw [dep_py]
        unfold fine at h2
        exact of_decide_eq_true (Bool.and_eq_true_iff.mp h2).2
      refine repr_of_reads' rd h3 (PyData.noDict_hsm (PyData.hasDict_of_canLay _ (lay_ok oa))) hgd (by omega) (fun _ _ e => e) (fun h' u tk hk => ?_) (by
        have : (reprT d0).length = (toPy d0).shown.length := by unfold reprT tlS Str.length; rw [Array.length_toList]
        rw [← this, lim_eq]; exact h4)
      refine ⟨.str (toPy d0).shown, H, I.kept hk, ⟨_, rfl⟩, ?_⟩
      have e3 : (toPy d0).shown = sT (reprT d0) := (tl_sT _).symm
      rw [e3]
      exact fin0 k r (Rep.strS _)
    · cases e
  · cases e
/-! ### sorted(set(e)) -/
theorem tlS_inj {x y : Str} (h : tlS x = tlS y) : x = y := by
  cases x; cases y
  have := congrArg List.toArray h
  simp [tlS] at this
  rw [this]
theorem nodup_map_tl {L : List Str} (h : L.Nodup) : (L.map tlS).Nodup := by
  induction L with
  | nil => exact List.nodup_nil
  | cons x L ih =>
    obtain ⟨h1, h2⟩ := List.nodup_cons.mp h
    refine List.nodup_cons.mpr ⟨fun z => ?_, ih h2⟩
    obtain ⟨y, hy, e⟩ := List.mem_map.mp z
    exact h1 (tlS_inj e ▸ hy)
theorem ord_of {xs : List Tx} {L : List Str} (nd : L.Nodup) (h : ∀ x, x ∈ L ↔ x ∈ xs.map sT) : srtT (L.map tlS) = ordT xs := by
  refine srtT_perm ((List.perm_ext_iff_of_nodup (nodup_map_tl nd) (dedT_nd xs)).mpr fun x => ?_)
  rw [mem_dedT, List.mem_map]
  constructor
  · rintro ⟨y, hy, rfl⟩
    obtain ⟨z, hz, e⟩ := List.mem_map.mp ((h y).mp hy)
    have : tlS y = z := by rw [← e]; exact sT_tl z
    rw [this]; exact hz
  · intro hx
    exact ⟨sT x, (h _).mpr (List.mem_map.mpr ⟨x, hx, rfl⟩), sT_tl x⟩
theorem strs_reps2 {io : List Addr} : ∀ {zs : List Str}, Reps T io H (zs.map V.str) ((zs.map tlS).map D.str)
  | [] => .nil
  | z :: zs => .cons (Rep.str z) strs_reps2
/-- behind sorted(a set): the new list -/
theorem sortedS_end {pins : List (Addr × Obj)} {s : Shared} {L : List Str} {p : Addr} {xs : List Tx} (hu : X.A.units + 3 < cLine) (hc : X.calm = true) (I : Inv X pins σ H s) (r : RS T S t σ H) (R : SetS X.w s.heap p L) (h : ∀ x, x ∈ L ↔ x ∈ xs.map sT)
    (k : ∀ v H' S', Nxt S H S' H' → S'.mu = S.mu → RS T S' t σ H' → RepK T .n S' t H' v (.lst ((ordT xs).map .str)) → Q v H') (hn : L.length ≤ LIM) :
    wpAny (model X.prog X.w) X.A (call (.builtin "sorted") [.ref p]) (EP X pins σ Q) X.xe s := by
  refine sorted_setS R (I.ok.hd hc) hu fun s' p out c zs kp g o hp hg hi hz => ?_
  have hlen : (zs.map V.str).length ≤ sizeLine := by
    rw [List.length_map]
    have e := congrArg List.length hz
    rw [List.length_map, (srtT_pm _).length_eq, List.length_map] at e
    rw [e, lim_eq]; exact hn
  have hf : H p = none := I.hok.fresh hp
  have J : Inv X pins σ (upd H p (.lst (zs.map V.str))) { s with heap := s'.heap, gens := s'.gens, drawn := s'.drawn, toks := s'.toks } :=
    I.call (ch := []) (L2.Un.laid kp hp hf) (I.hok.laid kp hp ⟨hlen, out, c, L2.vals_of_strs hi, hg⟩) (by rw [g]; exact I.bare) (fun _ z => nomatch z)
  have e : s' = { s with heap := s'.heap, gens := s'.gens, drawn := s'.drawn, toks := s'.toks } := by
    cases s'
    cases s
    cases o
    rfl
  rw [e]
  refine ⟨.ref p, _, J, rfl, finN k r hf ?_⟩
  rw [← ord_of R.nd h, ← hz]
  exact ⟨_, upd_same, strs_reps2⟩
theorem Ev.sortedSet {a : Expr} {ga : GE} {p p2 q : Pos} (hX : X.K = T.K) (hc : X.calm = true) (hu : X.A.units + 3 < cLine) (hg : Gl X "sorted") (hm : X.mg "sorted" = none) (hg2 : Gl X "set") (hm2 : X.mg "set" = none) (ha : Ev X T .v a ga)
    (na : starEach [a] X.env = (false, eval a X.env) :: starEach [] X.env := by rfl) :
    Ev X T .n (.Call (.Name "sorted" p) [.Call (.Name "set" p2) [a] [] q] [] pos) (g1 dSortSet ga) := by
  intro W tk S t σ H Q r pp pins s I
  refine Call_ (L2.ld_blt I hg hm boot_sorted ?_)
  refine PyProof.Rows.callWith_builtin1 (PyProof.Rows.args_cons ?_ rfl) rfl rfl
  refine Call_ (L2.ld_blt I hg2 hm2 boot_set ?_)
  refine PyProof.Rows.callWith_type1 (PyProof.Rows.args_cons (L2.thn (ha W tk S t σ H (fun x H1 => ∃ l xs m S1, Nxt S H S1 H1 ∧ S1.mu = m ∧ RS T S1 t σ H1 ∧ x = .ref l ∧ SqL X.K H1 l ((xs.map sT).map V.str) ∧ xs.length + 1 < scanBound ∧ EPost X T .n W S1 t σ H1 Q (.ok (.lst ((ordT xs).map .str)) m)) r ?_ pins s I)
    fun v s1 ⟨x, H1, I1, r1, q1⟩ => PyProof.Rows.args_nil ?_) na) na rfl
  · refine EPost.bind (κ1 := .v) pp fun d m v H' S' nx hm' rs rep p' => ?_
    cases e : dSortSet d with
    | none => unfold lift at p'; rw [e] at p'; exact p'.elim
    | some z =>
      unfold lift at p'; rw [e] at p'
      unfold dSortSet at e
      split at e
      · rename_i ds
        cases q1 : strsOf ds with
        | none => rw [q1] at e; cases e
        | some xs =>
          rw [q1] at e
          have e : (if xs.length + 1 < 4096 then some (D.lst ((ordT xs).map .str)) else none) = some z := e
          by_cases hl : xs.length + 1 < 4096
          · rw [if_pos hl] at e
            cases e
            obtain ⟨l, vs, rfl, sq, rr⟩ := rep.sq rs
            have := strs_reps rr q1
            subst this
            exact ⟨l, xs, m, S', nx, hm', rs, rfl, by rw [hX]; exact sq, hl, p'⟩
          · rw [if_neg hl] at e; cases e
      · cases e
  · obtain ⟨l, xs, m, S1, nx, hm', rs, rfl, sq, hl, q1⟩ := q1
    cases r1
    obtain ⟨its, rv, pl, hz⟩ := I1.list sq
    refine call_set_texts (xs.map sT) (I1.ok.hd hc) pl.isList (by simpa using L2.strsAre_of rv) (by rw [List.length_map]; exact hl) fun h' tk' hS hk => ?_
    refine PyProof.Rows.args_nil ?_
    have I2 : Inv X pins σ H1 { s1 with heap := h', toks := tk' } := I1.kept hk
    have hn : (insAll (xs.map sT) []).length ≤ LIM := by
      have a1 := insAll_len (xs.map sT) []
      rw [List.length_map] at a1
      have a2 : scanBound = 4096 := rfl
      have a3 : LIM = 16777216 := rfl
      simp only [List.length_nil] at a1
      omega
    refine sortedS_end (xs := xs) hu hc I2 rs hS (fun x => ?_) (fun v H' S' n1 h1 r1 rp => q1 v H' S' n1 (h1.trans hm') r1 rp) hn
    rw [mem_insAll]
    simp
end
end TL
set_option Elab.async false
set_option linter.all false
set_option maxRecDepth 100000
set_option maxHeartbeats 2000000
/-! TLw: sorted({e for ..}), texts. -/
namespace TL
open PySem PySem.Spec
open PyProof.Rows hiding St
open L2 (newEnv_comp)
open L2 (V HO Hp Cx Inv VK TE TS TO TI TG TGs TT It Ends SqL SqT upd upd_same upd_ne ne_of ne_of_none Rd Mut EP AP SP PE PS PSs PT PTs PO PG PGs PI PIE TP PK WX Takes RelV Vals Key kV Vis Loc Gl Room Dp DpAll BlkOk wipe wipe_length wipe_some FpOk cloFrom closure_ok thn block_start pinsAt mem_pinsAt thnF ObjOk)
/-- the set of texts at a -/
def SetTO (w : World) (a : Addr) (L : List Str) : HO := .ext fun h => SetS w h a L
theorem setTO_new {w : World} {P : Program} {H : Hp} {h : Heap} {a : Addr} {L : List Str} (R : SetS w h a L) : ObjOk P w H h a (SetTO w a L) := by
  have ⟨o, _, _, _, ho, _⟩ := R.ex
  exact ⟨R, ⟨o, ho⟩, fun h1 h2 p k => p.at k⟩
section
variable {X : Cx} {T : Tab} {κ κ1 κ2 : Kd} {W : WX} {S S' : Sx} {t : Fr} {σ : L2.St} {H H' : Hp} {Q Q1 : VK} {pos : Pos}
theorem setTO_get {pins : List (Addr × Obj)} {s : Shared} {a : Addr} {L : List Str} (I : Inv X pins σ H s) (ha : H a = some (SetTO X.w a L)) : SetS X.w s.heap a L := (I.hok a _ ha).1
theorem addT_ok {pins : List (Addr × Obj)} {s : Shared} {E : Value → Shared → Prop} {D : Addr} {L : List Str} {y : Str} {tk : Tok} {Q : Value → Shared → Prop} (I : Inv X pins σ H s) (hD : H D = some (SetTO X.w D L)) (room : L.length + 1 < scanBound)
    (h : ∀ s', Inv X pins σ (upd H D (SetTO X.w D (insS y L))) s' → Q .none s') : wpAny (model X.prog X.w) X.A (call (.builtin "set.add") [.ref D, .str y tk]) Q E s := by
  refine setS_add (setTO_get I hD) room fun h' sb new => ?_
  have he : ∃ u, h'.get? D = some u := by
    have ⟨o, _, _, _, ho, _⟩ := new.ex
    exact ⟨o, ho⟩
  exact h _ (I.write (e := D) (t' := s.toks + 1) (by rw [hD]; trivial) (.inl rfl) (fun b u hb hu => (sb.2 b hb).trans hu) he (setTO_new new))
/-- {elt for target in iter if ..}, elt a text: D the new set -/
def tScT (w : World) (wi : TI) (g : TG) (tt : TT) (te : TE) (vs : List Nat) : TE := fun σ H Q => wi σ H fun J H1 => ∀ D, H1 D = none → ∃ Wn : Nat → Nat → Hp → Prop, (∃ m, Wn 0 m (upd H1 D (SetTO w D []))) ∧ ∀ i m H, Wn i m H →
  (J.stop i H ∧ Q (.ref D) H) ∨ (J.go i H ∧ ∃ Nx : Hp → Prop, (∀ H', Nx H' → ∃ m', m' < m ∧ Wn (i + 1) m' H') ∧ ∀ x H', J.yld i H x H' → g x (wipe σ vs) H' fun σ2 H2 => wipe σ2 vs = wipe σ vs ∧ tt σ2 H2 fun b H3 =>
    if b = true then te σ2 H3 fun y H4 => ∃ (c : Str) (L : List Str), y = .str c ∧ H4 D = some (SetTO w D L) ∧ L.length + 1 < scanBound ∧ Nx (upd H4 D (SetTO w D (insS c L))) else Nx H3)
theorem sct_core {pins : List (Addr × Obj)} {s : Shared} {elt tg iter : Expr} {ifs : List Expr} {scope : Scope} {own : List (Str × Nat)} {pos' : Pos} {wi : TI} {g : TG} {tt : TT} {te : TE} {use : Option (Value → Sem Unit)} {Qf : Value → Shared → Prop}
    (hc : X.calm = true) (hN : X.N.Nodup) (I : Inv X pins σ H s) (hi : PI X tg iter wi) (ok : BlkOk X.N X.env.scope scope own)
    (hg : ∀ (s : Shared) (H : Hp) (C : Addr) (cl : List (Str × Addr)) (fp : List Addr), PG (X.blk s H scope (compEnvC scope cl C X.env) fp) tg g) (ht : ∀ (s : Shared) (H : Hp) (C : Addr) (cl : List (Str × Addr)) (fp : List Addr), PTs (X.blk s H scope (compEnvC scope cl C X.env) fp) ifs tt)
    (he : ∀ (s : Shared) (H : Hp) (C : Addr) (cl : List (Str × Addr)) (fp : List Addr), PE (X.blk s H scope (compEnvC scope cl C X.env) fp) elt te) (hs : ∀ x, foldedSetIterable iter X.env x = pure x)
    (h : tScT X.w wi g tt te (own.map (·.2)) σ H Q)
    (hRR : ∀ D C s' m H', Inv X pins σ H' s' → Q (.ref D) H' → s'.heap.Ns C m → FpOk X pins H' C → compPost (model X.prog X.w) X.A X.xe use Qf (.ref D) C (.ok .next) s') :
    wpAny (model X.prog X.w) X.A (comprehension (.SetComp elt [⟨tg, iter, ifs, 0⟩] scope pos) scope X.env pos' (newSet (.type "set")) false (eval iter X.env) use) Qf X.xe s := by
  have hfree : ∀ y ∈ scope.names, y.2 = .free → ∃ c, X.env.cells.lookup y.1 = some c := fun y hy e => (ok.free y hy e).elim (fun k => I.ok.has _ (.inl k)) fun k => I.ok.has _ (.inr k)
  refine wpAny_comprehension_free (use := use) rfl hs (closure_ok hfree) ok.kind (fun y hy e => by rw [ok.uniq y hy, e])
    (thn (hi.run pins s σ H _ I h) fun xv s1 hx => thn hx fun itv s2 h2 => ?_)
  obtain ⟨it, fp, tn, J, H2, rfl, I2, Tn, st2, f2, q⟩ := h2
  refine PpSet.newSet_ok (newEnv_comp ?_)
  generalize hD : s2.heap.objs.size = D
  obtain ⟨Wn, ⟨m0, w0⟩, turn⟩ := q D (I2.hok.fresh (Nat.le_of_eq hD))
  generalize hs3 : ({ s2 with heap := s2.heap.push { cls := .type "set", dict := none, data := .set #[] 0 (.fresh 0 0 (!X.w.params.followText "set-order")) } } : Shared) = s3
  have I3 : Inv X pins σ (upd H2 D (SetTO X.w D [])) s3 := by
    rw [← hs3]
    refine I2.laid (t' := s2.toks) (fun b o e => Heap.get?_push_of_some _ e) (Nat.le_of_eq hD) ?_
    rw [← hD]
    exact setTO_new (setS_fresh X.w)
  have h3 : s3.heap = s2.heap.push { cls := .type "set", dict := none, data := .set #[] 0 (.fresh 0 0 (!X.w.params.followText "set-order")) } := by rw [← hs3]
  have f3 : ∀ b ∈ fp, FpOk X pins (upd H2 D (SetTO X.w D [])) b ∧ b < s3.heap.objs.size := fun b hb => by
    obtain ⟨o, e, _⟩ := Tn.obj _ _ st2 b hb
    have hlt := Heap.lt_size e
    refine ⟨⟨?_, (f2 b hb).2⟩, by rw [h3, Heap.size_push]; exact Nat.lt_succ_of_lt hlt⟩
    rw [upd_ne (by rw [← hD]; exact Nat.ne_of_lt hlt)]
    exact (f2 b hb).1
  have st3 : tn 0 s3.heap := Tn.keep _ _ _ st2 fun b _ o e => by rw [h3]; exact Heap.get?_push_of_some _ e
  have I4 := block_start I3 ok hN f3
  have pg := hg s3 (upd H2 D (SetTO X.w D [])) s3.heap.objs.size (cellsFrom (s3.heap.objs.size + 1) scope.names (cloFrom X.env.cells scope.names [])) fp
  have pt := ht s3 (upd H2 D (SetTO X.w D [])) s3.heap.objs.size (cellsFrom (s3.heap.objs.size + 1) scope.names (cloFrom X.env.cells scope.names [])) fp
  have pe := he s3 (upd H2 D (SetTO X.w D [])) s3.heap.objs.size (cellsFrom (s3.heap.objs.size + 1) scope.names (cloFrom X.env.cells scope.names [])) fp
  show codeAny _ _ (.compStart (.SetComp elt [⟨tg, iter, ifs, 0⟩] scope pos) 0 (.ref it) (.ref D) (compEnvC scope (cellsFrom (s3.heap.objs.size + 1) scope.names (cloFrom X.env.cells scope.names [])) s3.heap.objs.size X.env)) (compPost (model X.prog X.w) X.A X.xe use Qf (.ref D) s3.heap.objs.size) { s3 with heap := pushCells (s3.heap.push { cls := .type "dict", data := .dict #[] }) scope.names }
  have nfp : ∀ b ∈ fp, (upd H2 D (SetTO X.w D [])) b = none := fun b hb => (f3 b hb).1.1
  generalize hce : compEnvC scope (cellsFrom (s3.heap.objs.size + 1) scope.names (cloFrom X.env.cells scope.names [])) s3.heap.objs.size X.env = ce at I4 pg pt pe ⊢
  have cL : ce.locals = s3.heap.objs.size := by subst hce; rfl
  generalize hH3 : upd H2 D (SetTO X.w D []) = H3 at I3 I4 pg pt pe w0 nfp f3
  generalize hs4 : ({ s3 with heap := pushCells (s3.heap.push { cls := .type "dict", data := .dict #[] }) scope.names } : Shared) = s4 at I4 ⊢
  have st4 : tn 0 s4.heap := Tn.keep _ _ _ st3 fun b _ o e => by rw [← hs4]; exact pushCells_keeps _ _ _ _ (Heap.get?_push_of_some _ e)
  have stat : ∀ {σ' : L2.St} {H' : Hp} {s' : Shared}, Inv (X.blk s3 H3 scope ce fp) [] σ' H' s' → (∀ b ∈ fp, H' b = none) → ∀ b ∈ fp, FpOk (X.blk s3 H3 scope ce fp) [] H' b := fun {σ' H' s'} I' hn b hb =>
    ⟨hn b hb, (I'.ok.exf b hb).1, I'.ok.exfs b hb, .inl hb, fun x c e => (I'.ok.exf b hb).2 x c e, fun p hp => absurd (show p ∈ ([] : List (Addr × Obj)) ++ [] from hp) (by simp)⟩
  have loop : codeAny (model X.prog X.w) X.A (.compLoop (.SetComp elt [⟨tg, iter, ifs, 0⟩] scope pos) 0 (.ref it) (.ref D) ce) (compPost (model X.prog X.w) X.A X.xe use Qf (.ref D) s3.heap.objs.size) s4 := by
    refine PpSet.compLoopS_any (fun n s' => ∃ i H', Inv (X.blk s3 H3 scope ce fp) [] (wipe σ (own.map (·.2))) H' s' ∧ tn i s'.heap ∧ (∀ b ∈ fp, H' b = none) ∧ Wn i n H') ?_ m0 ⟨0, H3, I4, st4, nfp, w0⟩
    rintro n s5 ⟨i, H5, I5, st5, n5, w5⟩
    rcases turn i n H5 w5 with ⟨stop, qq⟩ | ⟨go, Nx, hNx, step⟩
    · refine thnF (Tn.done (X.blk s3 H3 scope ce fp) rfl rfl rfl hc i [] s5 _ H5 (fun _ _ => False) I5 (stat I5 n5) st5 stop) fun r s6 ⟨hr, I6⟩ => ?_
      subst hr
      have I7 : Inv X pins σ H5 s6 := I3.call' (ch := fp) I6.os I6.base I6.hok I6.bare fun b hb => ⟨(f3 b hb).1.2.2.2.1, (f3 b hb).1.2.1, (f3 b hb).1.2.2.2.2.1, (f3 b hb).1.2.2.2.2.2⟩
      have nC : H5 s3.heap.objs.size = none := by
        have z : H5 ce.locals = none := I6.free
        rw [cL] at z
        exact z
      obtain ⟨m, hn, _⟩ := I6.loc
      have hn : s6.heap.Ns ce.locals m := hn
      rw [cL] at hn
      exact hRR D s3.heap.objs.size s6 m H5 I7 qq hn (I3.fpOk (Nat.le_refl _) nC)
    · refine thnF (Tn.item (X.blk s3 H3 scope ce fp) rfl rfl rfl hc i [] s5 _ H5 (fun _ _ => False) I5 (stat I5 n5) st5 go) fun r s6 ⟨u, hr, h6⟩ => ?_
      subst hr
      refine thnF h6 fun _ s7 ⟨x, H7, I7, r7, y7, st7, n7⟩ => ?_
      have I7' := I7.pinned (stat I7 n7) (Tn.obj _ _ st7)
      refine thnF (pg.run _ s7 _ H7 x u _ I7' r7 (step x H7 y7)) fun _ s8 ⟨σ8, H8, I8, hw8, q8⟩ => ?_
      refine thnF (pt.run _ s8 σ8 H8 _ I8 q8) fun b s9 ⟨H9, I9, q9⟩ => ?_
      have fin : ∀ {s' : Shared} {H' : Hp}, Inv (X.blk s3 H3 scope ce fp) ([] ++ pinsAt fp s7.heap) σ8 H' s' → Nx H' → ∃ m, m < n ∧ ∃ i H', Inv (X.blk s3 H3 scope ce fp) [] (wipe σ (own.map (·.2))) H' s' ∧ tn i s'.heap ∧ (∀ b ∈ fp, H' b = none) ∧ Wn i m H' := fun {s' H'} I' nx => by
        obtain ⟨m', hm, w'⟩ := hNx H' nx
        have pin' : ∀ b ∈ fp, ∀ o, s7.heap.get? b = some o → s'.heap.get? b = some o ∧ H' b = none := fun b hb o e =>
          let z := I'.pin (b, o) (List.mem_append_right _ (List.mem_append_right _ (mem_pinsAt hb e)))
          ⟨z.1, z.2.1⟩
        have hl : (wipe σ (own.map (·.2))).length = σ8.length := by rw [← hw8, wipe_length]
        refine ⟨m', hm, i + 1, H', (I'.unpinned (pins := [])).weak hl (fun j v e => ?_), Tn.keep _ _ _ st7 fun b hb o e => (pin' b hb o e).1, fun b hb => ?_, w'⟩
        · rw [← hw8] at e
          exact (wipe_some e).1
        · obtain ⟨o, e, _⟩ := Tn.obj _ _ st7 b hb
          exact (pin' b hb o e).2
      cases b with
      | false =>
        simp only [Bool.false_eq_true, if_false] at q9 ⊢
        exact fin I9 q9
      | true =>
        simp only [if_true] at q9 ⊢
        refine thnF (pe.run _ s9 σ8 H9 _ I9 q9) fun z s10 ⟨yv, H10, I10, r10, cb, L0, ey, hD10, hz10, nx⟩ => ?_
        subst ey
        obtain ⟨tk, rfl⟩ := r10
        exact addT_ok (X := X.blk s3 H3 scope ce fp) I10 hD10 hz10 fun s11 I11 => fin I11 nx
  exact PpSet.codeAny_compStart_set loop (Tn.self X.A 0 _ _ _ st4 loop)
theorem pe_sct {elt tg iter : Expr} {ifs : List Expr} {scope : Scope} {own : List (Str × Nat)} {wi : TI} {g : TG} {tt : TT} {te : TE} (hc : X.calm = true) (hN : X.N.Nodup) (hi : PI X tg iter wi) (ok : BlkOk X.N X.env.scope scope own)
    (hg : ∀ (s : Shared) (H : Hp) (C : Addr) (cl : List (Str × Addr)) (fp : List Addr), PG (X.blk s H scope (compEnvC scope cl C X.env) fp) tg g) (ht : ∀ (s : Shared) (H : Hp) (C : Addr) (cl : List (Str × Addr)) (fp : List Addr), PTs (X.blk s H scope (compEnvC scope cl C X.env) fp) ifs tt)
    (he : ∀ (s : Shared) (H : Hp) (C : Addr) (cl : List (Str × Addr)) (fp : List Addr), PE (X.blk s H scope (compEnvC scope cl C X.env) fp) elt te) (hs : ∀ x, foldedSetIterable iter X.env x = pure x := by intro _; rfl) :
    PE X (.SetComp elt [⟨tg, iter, ifs, 0⟩] scope pos) (tScT X.w wi g tt te (own.map (·.2))) := by
  refine ⟨fun pins s σ H Q I h => ?_⟩
  rw [PpSet.eval_SetComp]
  refine sct_core hc hN I hi ok hg ht he hs h fun D C s' m H' I' q hn f => ⟨m, hn, fun h'' sb => ?_⟩
  obtain ⟨f0, f1, f2, f3, f4, f5⟩ := f
  exact ⟨.ref D, H', I'.turned (t' := s'.toks) (fun b o hb e => (sb.2 b hb).trans e) f0 f1 f3 f4 f5, rfl, q⟩
/-! ### the reading -/
theorem lcM_pre {g : Tg} {c : GB} {e : GE} {t : Fr} : ∀ {ds acc : List D} {m : Store} {xs : List D} {m' : Store}, lcM g c e t ds acc m = .ok xs m' → acc <+: xs
  | [], acc, m, xs, m', h => by
    unfold lcM at h
    cases h
    exact List.prefix_refl _
  | d :: ds, acc, m, xs, m', h => by
    unfold lcM at h
    split at h
    · cases h
    · split at h
      · split at h
        · split at h
          · exact (List.prefix_append _ _).trans (lcM_pre h)
          · cases h
        · cases h
      · exact lcM_pre h
      · cases h
theorem strsOf_pre {a : List D} : ∀ {xs : List D} {l : List Tx}, strsOf xs = some l → a <+: xs → ∃ l', strsOf a = some l' ∧ l'.length ≤ l.length := by
  induction a with
  | nil => exact fun _ _ => ⟨[], rfl, Nat.zero_le _⟩
  | cons d a ih =>
    intro xs l h p
    obtain ⟨r, rfl⟩ := p
    cases d with
    | str x =>
      have h : (strsOf (a ++ r)).map (x :: ·) = some l := h
      cases q : strsOf (a ++ r) with
      | none => rw [q] at h; cases h
      | some l1 =>
        rw [q] at h
        cases h
        obtain ⟨l', e, hl⟩ := ih q (List.prefix_append _ _)
        exact ⟨x :: l', by unfold strsOf; rw [e]; rfl, by simp; exact hl⟩
    | _ => cases h
theorem strsOf_app {a : List D} {d : D} {l : List Tx} (h : strsOf (a ++ [d]) = some l) : ∃ l' x, strsOf a = some l' ∧ d = .str x ∧ l = l' ++ [x] := by
  induction a generalizing l with
  | nil =>
    cases d with
    | str x => cases h; exact ⟨[], x, rfl, rfl, rfl⟩
    | _ => cases h
  | cons y a ih =>
    cases y with
    | str x =>
      have h : (strsOf (a ++ [d])).map (x :: ·) = some l := h
      cases q : strsOf (a ++ [d]) with
      | none => rw [q] at h; cases h
      | some l1 =>
        rw [q] at h
        cases h
        obtain ⟨l', z, e, rfl, rfl⟩ := ih q
        exact ⟨x :: l', z, by unfold strsOf; rw [e]; rfl, rfl, rfl⟩
    | _ => cases h
/-- the walk's whole outcome -/
theorem EPost.some2 {o : Out (List D)} (p : EPost X T .n W S t σ H Q ((o.bind fun xs m => .ok (.lst xs) m).bind fun d m => lift (dSortSet d) m)) (hx : ∀ c fs m, o ≠ .exc c fs m) : ∃ xs m l, o = .ok xs m ∧ strsOf xs = some l ∧ l.length + 1 < 4096 := by
  cases o with
  | ok xs m =>
    have p : EPost X T .n W S t σ H Q (lift ((strsOf xs).bind fun xs => if xs.length + 1 < 4096 then some (D.lst ((ordT xs).map .str)) else none) m) := p
    cases q : strsOf xs with
    | none => rw [q] at p; exact p.elim
    | some l =>
      rw [q] at p
      have p : EPost X T .n W S t σ H Q (lift (if l.length + 1 < 4096 then some (D.lst ((ordT l).map .str)) else none) m) := p
      by_cases h : l.length + 1 < 4096
      · exact ⟨xs, m, l, rfl, q, h⟩
      · rw [if_neg h] at p; exact p.elim
  | exc c fs m => exact absurd rfl (hx c fs m)
  | bad => exact p.elim
theorem lcM_nox {g : Tg} {c : GB} {e : GE} {t : Fr} : ∀ {ds acc : List D} {m : Store} (k : Nat) (fs : List D) (m' : Store), lcM g c e t ds acc m ≠ .exc k fs m'
  | [], acc, m, k, fs, m', h => by
    unfold lcM at h; cases h
  | d :: ds, acc, m, k, fs, m', h => by
    unfold lcM at h
    split at h
    · cases h
    · split at h
      · split at h
        · split at h
          · exact lcM_nox k fs m' h
          · cases h
        · cases h
      · exact lcM_nox k fs m' h
      · cases h
section
variable {elt tg iter : Expr} {ifs : List Expr} {scope : Scope} {own : List (Str × Nat)} {gi : GI} {g : Tg} {gc : GB} {ge : GE}
theorem sct_read (hi : Ei X T tg iter gi) (hv : ∀ i ∈ g.ix, i ∈ own.map (·.2))
    (ht : ∀ (s : Shared) (H : Hp) (C : Addr) (cl : List (Str × Addr)) (fp : List Addr), Ets (X.blk s H scope (compEnvC scope cl C X.env) fp) T ifs gc)
    (he : ∀ (s : Shared) (H : Hp) (C : Addr) (cl : List (Str × Addr)) (fp : List Addr), Ev (X.blk s H scope (compEnvC scope cl C X.env) fp) T .t elt ge)
    (tk : Takes X W) (r : RS T S t σ H) (p : EPost X T .n W S t σ H Q (g1 dSortSet (gLc (own.map (·.2)) gi g gc ge) t S.mu)) :
    tScT X.w (wI X tg iter) (tgOf T.K g) (rdT X scope ifs) (rdE X scope elt) (own.map (·.2)) σ H
      (fun x H1 => ∃ D L xs m S1, x = V.ref D ∧ Nxt S H S1 H1 ∧ S1.mu = m ∧ RS T S1 t σ H1 ∧ H1 D = some (SetTO X.w D L) ∧ (∀ y, y ∈ L ↔ y ∈ xs.map sT) ∧ L.length ≤ xs.length ∧ xs.length + 1 < 4096 ∧ EPost X T .n W S1 t σ H1 Q (.ok (.lst ((ordT xs).map .str)) m)) := by
  generalize hvs : own.map (·.2) = vs at p hv
  unfold g1 gLc at p
  by_cases hno : noOwn t vs = true
  rotate_left
  · rw [if_neg hno] at p; exact p.elim
  rw [if_pos hno] at p
  have hps := noOwn_ps r hno
  refine hi W tk S t σ H _ r ?_
  cases ei : gi t S.mu with
  | bad => rw [ei] at p; exact p.elim
  | exc c fs m => rw [ei] at p; exact p
  | ok ds m =>
    rw [ei] at p
    have p : EPost X T .n W S t σ H Q (((lcM g gc ge (wipeF t vs) ds [] m).bind fun xs m => .ok (.lst xs) m).bind fun d m => lift (dSortSet d) m) := p
    intro J H1 S1 nx1 hm1 rs1 y D hD
    obtain ⟨hD0, hDi, hDp⟩ := rs1.free hD
    have hps1 : ∀ i ∈ vs, ∀ p, S1.ps[i]? ≠ some (some p) := by rw [nx1.ps]; exact hps
    let Pv : Nat → Hp → Prop := fun i H' => ∃ S' L dacc xs, Nxt S1 H1 S' H' ∧ RS T S' (wipeF t vs) (L2.wipe σ vs) H' ∧ H' D = some (SetTO X.w D L) ∧ strsOf dacc = some xs ∧ (∀ y, y ∈ L ↔ y ∈ xs.map sT) ∧ L.length ≤ xs.length ∧ D ∉ S'.io ∧
      EPost X T .n W S' t σ H' Q (((lcM g gc ge (wipeF t vs) (ds.drop i) dacc S'.mu).bind fun xs m => .ok (.lst xs) m).bind fun d m => lift (dSortSet d) m)
    have hP0 : Pv 0 (upd H1 D (SetTO X.w D [])) := by
      have k : Keep H1 (upd H1 D (SetTO X.w D [])) := Keep.upd (.inl hD)
      have nx : Nxt S1 H1 S1 (upd H1 D (SetTO X.w D [])) := ⟨rfl, rfl, List.prefix_refl _, rfl, k⟩
      exact ⟨S1, [], [], [], nx, (rs1.grow (grow_upd hD)).rewipe hps1, upd_same, rfl, fun y => by simp, Nat.le_refl _, hDi, by rw [hm1]; exact EPost.shift (nx1.trans nx) p⟩
    refine ⟨fun i n H' => n = ds.length - i ∧ i ≤ ds.length ∧ Pv i H', ⟨ds.length, by simp, Nat.zero_le _, hP0⟩, ?_⟩
    rintro i n H2 ⟨rfl, hil, S2, L, dacc, xs, nx2, rs2, hDa, hxs, hmem, hlenL, hDi2, p2⟩
    obtain ⟨yi, ye⟩ := y H2 nx2.kp
    have hDp2 : some D ∉ S2.ps := by rw [nx2.ps]; exact hDp
    have h20 : S2.H0 D = none := by rw [nx2.h0]; exact hD0
    by_cases hlt : i < ds.length
    · have ed : ds[i]? = some ds[i] := List.getElem?_eq_getElem hlt
      obtain ⟨go, yd⟩ := yi i _ ed
      refine .inr ⟨go, Pv (i + 1), fun H' q => ⟨ds.length - (i + 1), by omega, rfl, hlt, q⟩, fun x H3 yx => ?_⟩
      obtain ⟨gr, rep⟩ := yd x H3 yx
      have rs3 := rs2.grow gr
      have k3 : Keep H2 H3 := ⟨fun b xs e => gr _ _ e, fun b o u e => gr _ _ e⟩
      have nx3 : Nxt S2 H2 S2 H3 := ⟨rfl, rfl, List.prefix_refl _, rfl, k3⟩
      have hD3 : H3 D = some (SetTO X.w D L) := gr _ _ hDa
      rw [List.drop_eq_getElem_cons hlt] at p2
      have whole := EPost.some2 p2 fun c fs m => lcM_nox c fs m
      unfold lcM at p2 whole
      cases eb : g.bind ds[i] (wipeF t vs) with
      | none => rw [eb] at p2; exact p2.elim
      | some t4 =>
        rw [eb] at p2 whole
        refine tg_ok rs3 eb (rep.mono (Keep.refl _) nx2.io) fun σ4 rs4 hw => ?_
        obtain ⟨hw1, hw2⟩ := hw vs hv
        rw [wipe_idem] at hw1
        rw [wipeF_idem] at hw2
        refine ⟨hw1, ?_⟩
        have hps2 : ∀ i ∈ vs, ∀ p, S2.ps[i]? ≠ some (some p) := by rw [nx2.ps]; exact hps1
        rw [setPs_id fun i hi => hps2 i (hv i hi)] at rs4
        have rs4g := rs4.guard hD3 hDi2 hDp2
        intro sa Ha Ca cla fpa pinsa sa' Ia
        refine ht sa Ha Ca cla fpa (fun _ _ _ _ => False) takes_no (S2.guard D (SetTO X.w D L)) t4 σ4 H3 _ rs4g ?_ pinsa sa' Ia
        show BPost _ T _ _ t4 σ4 H3 _ (gc t4 S2.mu)
        dsimp only at p2 whole
        cases ec : gc t4 S2.mu with
        | bad => rw [ec] at p2; exact p2.elim
        | exc c fs m' => rw [ec] at p2; exact p2.elim
        | ok b m' =>
          rw [ec] at p2 whole
          intro H5 S5g n5g hm5 rs5g
          obtain ⟨rs5, hD5, nx5, hDi5⟩ := RS.unguard n5g rs5g h20 hDi2 rs2.g.pre
          have nx25 : Nxt S2 H2 { S5g with H0 := S2.H0 } H5 := nx3.trans nx5
          rcases bool_or b with rfl | rfl
          · rw [if_pos rfl]
            intro sb Hb Cb clb fpb
            have hDp5 : some D ∉ S5g.ps := by rw [n5g.ps]; exact hDp2
            have rs5g2 := rs5.guard hD5 hDi5 hDp5
            refine he sb Hb Cb clb fpb (fun _ _ _ _ => False) takes_no _ t4 σ4 H5 _ rs5g2 ?_
            have eg' : ge t4 S5g.mu = ge t4 m' := by rw [hm5]
            show EPost _ T _ _ _ t4 σ4 H5 _ (ge t4 S5g.mu)
            rw [eg']
            dsimp only at p2 whole
            cases eg : ge t4 m' with
            | bad => rw [eg] at p2; exact p2.elim
            | exc c fs m'' => rw [eg] at p2; exact p2.elim
            | ok dx m'' =>
              rw [eg] at p2 whole
              dsimp only at p2 whole
              by_cases hlen : dacc.length < LIM
              rotate_left
              · rw [if_neg hlen] at p2; exact p2.elim
              rw [if_pos hlen] at p2 whole
              obtain ⟨xsF, mF, lF, eF, sF, hF⟩ := whole
              obtain ⟨l1, e1, hl1⟩ := strsOf_pre sF (lcM_pre eF)
              obtain ⟨l2, x2, e2, ex, e3⟩ := strsOf_app e1
              rw [hxs] at e2
              cases e2
              subst ex
              intro yv H6 S6g n6g hm6 rs6g rep6
              obtain ⟨rs6, hD6, nx6, hDi6⟩ := RS.unguard (S := { S5g with H0 := S2.H0 }) n6g rs6g h20 hDi5 rs5.g.pre
              have ey : yv = .str (sT x2) := rep_str rep6
              subst ey
              have hroom : L.length + 1 < scanBound := by
                have q : l1.length = xs.length + 1 := by rw [e3]; simp
                have a2 : scanBound = 4096 := rfl
                omega
              refine ⟨sT x2, L, rfl, hD6, hroom, ?_⟩
              have k7 : Keep H6 (upd H6 D (SetTO X.w D (insS (sT x2) L))) := Keep.upd (.inr (by rw [hD6]; trivial))
              have hDp6 : some D ∉ S6g.ps := by rw [n6g.ps]; exact hDp5
              have rs7 := (rs6.change (p := D) (o := SetTO X.w D (insS (sT x2) L)) k7 h20 hDi6 hDp6).rewipe (vs := vs) (by
                intro i hi p
                show S6g.ps[i]? ≠ _
                rw [n6g.ps]
                show S5g.ps[i]? ≠ _
                rw [n5g.ps]
                exact hps2 i hi p)
              rw [hw1, hw2] at rs7
              have nx27 : Nxt S2 H2 { S6g with H0 := S2.H0 } (upd H6 D (SetTO X.w D (insS (sT x2) L))) := (nx25.trans nx6).trans ⟨rfl, rfl, List.prefix_refl _, rfl, k7⟩
              refine ⟨{ S6g with H0 := S2.H0 }, insS (sT x2) L, dacc ++ [.str x2], xs ++ [x2], nx2.trans nx27, rs7, upd_same, by rw [e1, e3], fun y => ?_, ?_, hDi6, ?_⟩
              · rw [mem_insS, hmem, List.map_append, List.mem_append]
                simp [or_comm]
              · have := insS_len (sT x2) L
                simp
                omega
              · have eg' : lcM g gc ge (wipeF t vs) (ds.drop (i + 1)) (dacc ++ [.str x2]) S6g.mu = lcM g gc ge (wipeF t vs) (ds.drop (i + 1)) (dacc ++ [.str x2]) m'' := by rw [hm6]
                show EPost X T .n W _ t σ _ Q (((lcM g gc ge (wipeF t vs) (ds.drop (i + 1)) (dacc ++ [.str x2]) S6g.mu).bind fun xs m => .ok (.lst xs) m).bind fun d m => lift (dSortSet d) m)
                rw [eg']; exact EPost.shift nx27 p2
          · rw [if_neg Bool.false_ne_true]
            have rs7 := rs5.rewipe (vs := vs) (by
                intro i hi p
                show S5g.ps[i]? ≠ _
                rw [n5g.ps]
                exact hps2 i hi p)
            rw [hw1, hw2] at rs7
            exact ⟨{ S5g with H0 := S2.H0 }, L, dacc, xs, nx2.trans nx25, rs7, hD5, hxs, hmem, hlenL, hDi5, by
              have eg' : lcM g gc ge (wipeF t vs) (ds.drop (i + 1)) dacc S5g.mu = lcM g gc ge (wipeF t vs) (ds.drop (i + 1)) dacc m' := by rw [hm5]
              show EPost X T .n W _ t σ _ Q (((lcM g gc ge (wipeF t vs) (ds.drop (i + 1)) dacc S5g.mu).bind fun xs m => .ok (.lst xs) m).bind fun d m => lift (dSortSet d) m)
              rw [eg']; exact EPost.shift nx25 p2⟩
    · have e : i = ds.length := by omega
      subst e
      rw [List.drop_length] at p2
      have rsb := rs1.unwipe hps1 nx2 rs2
      have whole := EPost.some2 p2 fun c fs m => lcM_nox c fs m
      unfold lcM at whole
      obtain ⟨xsF, mF, lF, eF, sF, hF⟩ := whole
      cases eF
      rw [hxs] at sF
      cases sF
      refine .inl ⟨ye, D, L, xs, S2.mu, S2, rfl, nx1.trans nx2, rfl, rsb, hDa, hmem, hlenL, hF, ?_⟩
      have p2 : EPost X T .n W S2 t σ H2 Q (lift ((strsOf dacc).bind fun xs => if xs.length + 1 < 4096 then some (TL.D.lst ((ordT xs).map .str)) else none) S2.mu) := p2
      rw [hxs] at p2
      have p2 : EPost X T .n W S2 t σ H2 Q (lift (if xs.length + 1 < 4096 then some (TL.D.lst ((ordT xs).map .str)) else none) S2.mu) := p2
      rw [if_pos hF] at p2
      exact p2
theorem Ev.sortedComp {p : Pos} {pos2 : Pos} (hX : X.K = T.K) (hc : X.calm = true) (hu : X.A.units + 3 < cLine) (hN : X.N.Nodup) (hgs : Gl X "sorted") (hms : X.mg "sorted" = none) (hi : Ei X T tg iter gi) (ok : BlkOk X.N X.env.scope scope own) (hv : ∀ i ∈ g.ix, i ∈ own.map (·.2))
    (hg : ∀ (s : Shared) (H : Hp) (C : Addr) (cl : List (Str × Addr)) (fp : List Addr), PG (X.blk s H scope (compEnvC scope cl C X.env) fp) tg (tgOf T.K g))
    (ht : ∀ (s : Shared) (H : Hp) (C : Addr) (cl : List (Str × Addr)) (fp : List Addr), Ets (X.blk s H scope (compEnvC scope cl C X.env) fp) T ifs gc)
    (he : ∀ (s : Shared) (H : Hp) (C : Addr) (cl : List (Str × Addr)) (fp : List Addr), Ev (X.blk s H scope (compEnvC scope cl C X.env) fp) T .t elt ge) (hs : ∀ x, foldedSetIterable iter X.env x = pure x := by intro _; rfl)
    (na : starEach [Expr.SetComp elt [⟨tg, iter, ifs, 0⟩] scope pos2] X.env = (false, eval (Expr.SetComp elt [⟨tg, iter, ifs, 0⟩] scope pos2) X.env) :: starEach [] X.env := by rfl) :
    Ev X T .n (.Call (.Name "sorted" p) [.SetComp elt [⟨tg, iter, ifs, 0⟩] scope pos2] [] pos) (g1 dSortSet (gLc (own.map (·.2)) gi g gc ge)) := by
  intro W tk S t σ H Q r pp pins s I
  refine Call_ (L2.ld_blt I hgs hms boot_sorted ?_)
  have key := (pe_sct (pos := pos2) hc hN (wI_pi X tg iter) ok hg (fun s H C cl fp => ⟨fun pins s' σ H' Q I h => h s H C cl fp pins s' I⟩) (fun s H C cl fp => ⟨fun pins s' σ H' Q I h => h s H C cl fp pins s' I⟩) hs).run pins s σ H _ I (sct_read hi hv ht he tk r pp)
  refine PyProof.Rows.callWith_builtin1 (PyProof.Rows.args_cons (L2.thn key fun v s1 ⟨x, H1, I1, r1, q1⟩ => PyProof.Rows.args_nil ?_) na) na rfl
  obtain ⟨D, L, xs, m, S1, rfl, nx, hm, rs, hD, hmem, hl, hl2, q1⟩ := q1
  cases r1
  exact sortedS_end (xs := xs) hu hc I1 rs (setTO_get I1 hD) hmem (fun v H' S' n1 h1 r1 rp => q1 v H' S' n1 (h1.trans hm) r1 rp) (by
    have : LIM = 16777216 := rfl
    omega)
end
end
end TL
set_option Elab.async false
set_option linter.all false
set_option maxRecDepth 100000
set_option maxHeartbeats 2000000
/-! TLx: cells looked into: ==, repr, len, slices, append; a new thing made a cell at once. -/
namespace TL
open PySem PySem.Spec
open PyProof.Rows hiding St
open L2 (V HO Hp Cx Inv VK TE TS TO TI TG TGs TT It Ends SqL SqT upd upd_same upd_ne ne_of ne_of_none Rd Mut EP AP SP PE PA PS PSs PT PTs PO PG PGs PI PIE TP PK WX Takes RelV Vals Key kV Vis Loc Gl Room Dp DpAll BlkOk)
mutual
def mapObj (f : Nat → D) : D → D
  | .obj k => f k
  | .lst xs => .lst (mapObjs f xs)
  | .tup xs => .tup (mapObjs f xs)
  | d => d
def mapObjs (f : Nat → D) : List D → List D
  | [] => []
  | x :: xs => mapObj f x :: mapObjs f xs
end
/-- handles of lists replaced by what stands there, n deep -/
def der : Nat → Store → D → D
  | 0, _, d => d
  | n + 1, m, d => mapObj (fun k => match m[k]? with
    | some (.lst xs) => der n m (.lst xs)
    | _ => .obj k) d
mutual
def noObj : D → Bool
  | .obj _ => false
  | .lst xs => noObjs xs
  | .tup xs => noObjs xs
  | _ => true
def noObjs : List D → Bool
  | [] => true
  | x :: xs => noObj x && noObjs xs
end
mutual
theorem mapObj_id {f : Nat → D} : ∀ {d : D}, noObj d = true → mapObj f d = d
  | .obj _, h => by unfold noObj at h; cases h
  | .lst xs, h => by unfold noObj at h; unfold mapObj; rw [mapObjs_id h]
  | .tup xs, h => by unfold noObj at h; unfold mapObj; rw [mapObjs_id h]
  | .non, _ => by unfold mapObj; rfl
  | .bl _, _ => by unfold mapObj; rfl
  | .int _, _ => by unfold mapObj; rfl
  | .str _, _ => by unfold mapObj; rfl
  | .dct _, _ => by unfold mapObj; rfl
  | .ins _ _, _ => by unfold mapObj; rfl
theorem mapObjs_id {f : Nat → D} : ∀ {d : List D}, noObjs d = true → mapObjs f d = d
  | [], _ => by unfold mapObjs; rfl
  | x :: xs, h => by
    unfold noObjs at h
    have h := Bool.and_eq_true_iff.mp h
    unfold mapObjs
    rw [mapObj_id h.1, mapObjs_id h.2]
end
theorem der_id {n : Nat} {m : Store} {d : D} (h : noObj d = true) : der n m d = d := by
  cases n with
  | zero => rfl
  | succ n => exact mapObj_id h
mutual
theorem ok_noObj : ∀ {d : D}, okD d = true → noObj d = true
  | .obj _, h => by unfold okD at h; cases h
  | .lst xs, h => by unfold okD at h; unfold noObj; exact oks_noObj h
  | .tup xs, h => by unfold okD at h; unfold noObj; exact oks_noObj h
  | .non, _ => by unfold noObj; rfl
  | .bl _, _ => by unfold noObj; rfl
  | .int _, _ => by unfold noObj; rfl
  | .str _, _ => by unfold noObj; rfl
  | .dct _, _ => by unfold noObj; rfl
  | .ins _ _, _ => by unfold noObj; rfl
theorem oks_noObj : ∀ {d : List D}, okDs d = true → noObjs d = true
  | [], _ => by unfold noObjs; rfl
  | x :: xs, h => by
    unfold okDs at h
    have h := Bool.and_eq_true_iff.mp h
    unfold noObjs
    rw [ok_noObj h.1, oks_noObj h.2]; rfl
end
def dEqM (m : Store) (a b : D) : Option D := if scalD a b = true then some (.bl (deq a b)) else if fine (der 2 m a) = true ∧ fine (der 2 m b) = true then some (.bl (deq (der 2 m a) (der 2 m b))) else none
def dNeM (m : Store) (a b : D) : Option D := if scalD a b = true then some (.bl (!deq a b)) else if fine (der 2 m a) = true ∧ fine (der 2 m b) = true then some (.bl (!deq (der 2 m a) (der 2 m b))) else none
def g2M (f : Store → D → D → Option D) (a b : GE) : GE := fun t m => (a t m).bind fun x m => (b t m).bind fun y m => lift (f m x y) m
def gLM (f : Store → List D → Option D) (a : GA) : GE := fun t m => (a t m).bind fun xs m => lift (f m xs) m
/-- a list's handle, looked into -/
def der1 (m : Store) : D → D
  | .obj k => match m[k]? with
    | some (.lst xs) => .lst xs
    | _ => .obj k
  | d => d
theorem der1_obj {m : Store} {k : Nat} : der1 m (.obj k) = match m[k]? with
    | some (.lst xs) => .lst xs
    | _ => .obj k := rfl
def dLenM (m : Store) : List D → Option D
  | [d] => dLen [der1 m d]
  | _ => none
def dReprM (m : Store) : List D → Option D
  | [d] => if isSeq (der1 m d) = true ∧ fine (der 2 m d) = true ∧ (toPy (der 2 m d)).showable = true ∧ (reprT (der 2 m d)).length ≤ LIM then some (.str (reprT (der 2 m d))) else none
  | _ => none
def gSlM (a : GE) (l h : GO) : GE := fun t m => (a t m).bind fun x m => (l t m).bind fun lo m => (h t m).bind fun hi m => lift (dSl (der1 m x) lo hi) m
/-- a new thing made a cell -/
def gPub (a : GE) : GE := fun t m => (a t m).bind fun d m => match d with
  | .lst xs => .ok (.obj m.length) (m ++ [.lst xs])
  | _ => .bad
/-- o.append(e), o a list's handle -/
def sCapp (o e : GE) : GS := fun t m => ofE (o t m) t fun x m => match x with
  | .obj k => (match m[k]? with
    | some (.lst _) => ofE (e t m) t fun d m => (match m[k]? with
      | some (.lst xs) => if xs.length < LIM then .next t (m.set k (.lst (xs ++ [d]))) else .bad
      | _ => .bad)
    | _ => .bad)
  | _ => .bad
section
variable {X : Cx} {T : Tab} {κ κ1 κ2 : Kd} {W : WX} {S S' : Sx} {t : Fr} {σ : L2.St} {H H' : Hp} {Q Q1 : VK} {pos : Pos}
mutual
theorem rep_map {io : List Addr} {f : Nat → D} (hf : ∀ k a, io[k]? = some a → okD (f k) = true → Dp T.K H (.ref a) (toPy (f k))) : ∀ {v : V} {d : D}, Rep T io H v d → okD (mapObj f d) = true → Dp T.K H v (toPy (mapObj f d))
  | _, _, .non, _ => by unfold mapObj toPy; exact .non
  | _, _, .bl b, _ => by unfold mapObj toPy; exact .bl b
  | _, _, .int i, _ => by unfold mapObj toPy; exact .int i
  | _, _, .str x, _ => by unfold mapObj toPy; rw [tl_sT]; exact .str x
  | _, _, .tup h r, e => by unfold mapObj at e ⊢; unfold toPy; exact .tup h (reps_map hf r (by unfold okD at e; exact e))
  | _, _, .lst h r, e => by unfold mapObj at e ⊢; unfold toPy; exact .lst h.sq (reps_map hf r (by unfold okD at e; exact e))
  | _, _, .dct _ _, e => by unfold mapObj okD at e; cases e
  | _, _, .dcT _ _, e => by unfold mapObj okD at e; cases e
  | _, _, .ins _ _ _ _, e => by unfold mapObj okD at e; cases e
  | _, _, .obj h, e => by unfold mapObj at e ⊢; exact hf _ _ h e
theorem reps_map {io : List Addr} {f : Nat → D} (hf : ∀ k a, io[k]? = some a → okD (f k) = true → Dp T.K H (.ref a) (toPy (f k))) : ∀ {v : List V} {d : List D}, Reps T io H v d → okDs (mapObjs f d) = true → DpAll T.K H v (toPys (mapObjs f d))
  | _, _, .nil, _ => by unfold mapObjs toPys; exact .nil
  | _, _, .cons a b, e => by
    unfold mapObjs at e ⊢
    unfold okDs at e
    have e := Bool.and_eq_true_iff.mp e
    unfold toPys
    exact .cons (rep_map hf a e.1) (reps_map hf b e.2)
end
theorem own_map {io : List Addr} {f : Nat → D} (hf : ∀ k a, io[k]? = some a → okD (f k) = true → Dp T.K H (.ref a) (toPy (f k))) {p : Addr} {d : D} (ow : OwnAt T io H p d) (e : okD (mapObj f d) = true) : Dp T.K H (.ref p) (toPy (mapObj f d)) := by
  cases d with
  | lst ds =>
    obtain ⟨vs, hv, rr⟩ := ow
    unfold mapObj at e ⊢
    unfold toPy
    exact .lst (SqL.of hv) (reps_map hf rr (by unfold okD at e; exact e))
  | dct ds => unfold mapObj okD at e; cases e
  | ins c ds => unfold mapObj okD at e; cases e
  | _ => exact ow.elim
theorem cell_dp (g : StOk T S.io S.mu H) : ∀ (n : Nat) (k : Nat) (a : Addr), S.io[k]? = some a → okD (match S.mu[k]? with
    | some (.lst xs) => der n S.mu (.lst xs)
    | _ => .obj k) = true → Dp T.K H (.ref a) (toPy (match S.mu[k]? with
    | some (.lst xs) => der n S.mu (.lst xs)
    | _ => .obj k))
  | n, k, a, h, e => by
    cases q : S.mu[k]? with
    | none => rw [q] at e; unfold okD at e; cases e
    | some c =>
      rw [q] at e
      cases c with
      | lst xs =>
        have ow := g.cell k a (.lst xs) h q
        cases n with
        | zero =>
          have e : okD (.lst xs) = true := e
          show Dp T.K H (.ref a) (toPy (.lst xs))
          have z := own_map (f := fun k => .obj k) (fun k a _ e => by unfold okD at e; cases e) ow (by rw [mapObj_id (ok_noObj e)]; exact e)
          rw [mapObj_id (ok_noObj e)] at z
          exact z
        | succ n => exact own_map (cell_dp g n) ow e
      | _ => dsimp only at e; unfold okD at e; cases e
theorem RepK.dpM {n : Nat} (r : RS T S t σ H) {x : V} {d : D} (h : RepK T .v S t H x d) (e : okD (der (n + 1) S.mu d) = true) : Dp T.K H x (toPy (der (n + 1) S.mu d)) := by
  rcases h with h | ⟨i, p, rfl, hp, eo, th⟩
  · exact rep_map (cell_dp r.g.st n) h e
  · obtain ⟨a, e1, e2, ow⟩ := r.ownAt eo
    rw [hp] at e1
    cases e1
    exact own_map (cell_dp r.g.st n) ow e
/-! ### operators with the store -/
def Op2M (X : Cx) (T : Tab) (κ : Kd) (F : Value → Value → Sem Value) (f : Store → D → D → Option D) : Prop :=
  ∀ (S : Sx) (t : Fr) (σ : L2.St) (H : Hp) (x y : V) (a b d : D) (Q : VK), RS T S t σ H → RepK T .v S t H x a → RepK T .v S t H y b → f S.mu a b = some d →
    (∀ v H' S', Nxt S H S' H' → S'.mu = S.mu → RS T S' t σ H' → RepK T κ S' t H' v d → Q v H') →
    ∀ (pins : List (Addr × Obj)) (s : Shared) (u w : Value), Inv X pins σ H s → RelV x u → RelV y w → wpAny (model X.prog X.w) X.A (F u w) (EP X pins σ Q) X.xe s
theorem op2M_bind {a b : Expr} {ga gb : GE} {f : Store → D → D → Option D} {F : Value → Value → Sem Value} (ho : Op2M X T κ F f) (ha : Ev X T .v a ga) (hb : Ev X T .v b gb) (tk : Takes X W) (r : RS T S t σ H)
    (p : EPost X T κ W S t σ H Q (g2M f ga gb t S.mu)) {pins : List (Addr × Obj)} {s : Shared} (I : Inv X pins σ H s) :
    wpAny (model X.prog X.w) X.A (eval a X.env) (fun v s₁ => wpAny (model X.prog X.w) X.A (eval b X.env) (fun u s₂ => wpAny (model X.prog X.w) X.A (F v u) (EP X pins σ Q) X.xe s₂) X.xe s₁) X.xe s := by
  refine L2.binT (wE_pe X a) (wE_pe X b) I (R := fun x y H2 => ∀ (pins : List (Addr × Obj)) (s : Shared) (u w : Value), Inv X pins σ H2 s → RelV x u → RelV y w → wpAny (model X.prog X.w) X.A (F u w) (EP X pins σ Q) X.xe s)
    (ha W tk S t σ H _ r (EPost.bind (κ1 := .v) p fun d m v H1 S1 nx hm rs rep p1 => hb W tk S1 t σ H1 _ rs ?_)) fun v u s2 x y H2 I2 rx ry q => q pins s2 v u I2 rx ry
  rw [hm]
  refine EPost.bind (κ1 := .v) p1 fun e m2 u H2 S2 nx2 hm2 rs2 rep2 p2 => ?_
  cases q : f m2 d e with
  | none => unfold lift at p2; rw [q] at p2; exact p2.elim
  | some z =>
    unfold lift at p2; rw [q] at p2
    exact ho S2 t σ H2 v u d e z Q rs2 (rep.keep nx2) rep2 (by rw [hm2]; exact q) fun v' H' S' n' hm' rs' rep' => p2 v' H' S' n' (hm'.trans hm2) rs' rep'
theorem Ev.opM {op : Operator} {a b : Expr} {ga gb : GE} {f : Store → D → D → Option D} {pos : Pos} (ho : Op2M X T κ (binaryOp op) f) (ha : Ev X T .v a ga) (hb : Ev X T .v b gb) : Ev X T κ (.BinOp a op b pos) (g2M f ga gb) :=
  fun W tk S t σ H Q r p pins s I => wpAny_BinOp (op2M_bind ho ha hb tk r p I)
theorem Ev.cmpM {op : CmpOp} {a b : Expr} {ga gb : GE} {f : Store → D → D → Option D} {pos : Pos} (ho : Op2M X T κ (compareOp op) f) (ha : Ev X T .v a ga) (hb : Ev X T .v b gb) (hm : behindInMarks op b = false := by rfl) : Ev X T κ (.Compare a [op] [b] pos) (g2M f ga gb) :=
  fun W tk S t σ H Q r p pins s I => wpAny_Compare1 (op2M_bind ho ha hb tk r p I) hm
theorem Op2M.eq (hX : X.K = T.K) (hu : X.A.units + 64 < cLine) : Op2M X T κ (compareOp .Eq) dEqM := by
  intro S t σ H x y a b d Q r ra rb e k pins s u w I ru rw
  unfold dEqM at e
  by_cases h : scalD a b = true
  · rw [if_pos h] at e
    cases e
    obtain ⟨h1, h2⟩ := scal_of h ra rb
    exact L2.op_eq pins s σ H x y u w Q I ru rw ⟨h1, by rw [h2]; exact fin0 k r (.bl _)⟩
  · rw [if_neg h] at e
    by_cases h2 : fine (der 2 S.mu a) = true ∧ fine (der 2 S.mu b) = true
    · rw [if_pos h2] at e
      cases e
      obtain ⟨oa, sa⟩ := fine_sh h2.1
      obtain ⟨ob, sb⟩ := fine_sh h2.2
      exact L2.op_eqD hu pins s σ H x y u w Q I ru rw ⟨toPy (der 2 S.mu a), toPy (der 2 S.mu b), by rw [hX]; exact ra.dpM r oa, by rw [hX]; exact rb.dpM r ob, sa, sb, by rw [eqv_deq oa ob]; exact fin0 k r (.bl _)⟩
    · rw [if_neg h2] at e; cases e
theorem Op2M.ne (hX : X.K = T.K) (hu : X.A.units + 64 < cLine) : Op2M X T κ (compareOp .NotEq) dNeM := by
  intro S t σ H x y a b d Q r ra rb e k pins s u w I ru rw
  unfold dNeM at e
  by_cases h : scalD a b = true
  · rw [if_pos h] at e
    cases e
    obtain ⟨h1, h2⟩ := scal_of h ra rb
    exact L2.op_ne pins s σ H x y u w Q I ru rw ⟨h1, by rw [h2]; exact fin0 k r (.bl _)⟩
  · rw [if_neg h] at e
    by_cases h2 : fine (der 2 S.mu a) = true ∧ fine (der 2 S.mu b) = true
    · rw [if_pos h2] at e
      cases e
      obtain ⟨oa, sa⟩ := fine_sh h2.1
      obtain ⟨ob, sb⟩ := fine_sh h2.2
      exact L2.op_neD hu pins s σ H x y u w Q I ru rw ⟨toPy (der 2 S.mu a), toPy (der 2 S.mu b), by rw [hX]; exact ra.dpM r oa, by rw [hX]; exact rb.dpM r ob, sa, sb, by rw [eqv_deq oa ob]; exact fin0 k r (.bl _)⟩
    · rw [if_neg h2] at e; cases e
/-! ### built-in functions with the store -/
def FnSM (X : Cx) (T : Tab) (κ : Kd) (F : Value) (f : Store → List D → Option D) : Prop :=
  ∀ (S : Sx) (t : Fr) (σ : L2.St) (H : Hp) (xs : List V) (ds : List D) (d : D) (Q : VK), RS T S t σ H → RepL T .v S t H xs ds → f S.mu ds = some d →
    (∀ v H' S', Nxt S H S' H' → S'.mu = S.mu → RS T S' t σ H' → RepK T κ S' t H' v d → Q v H') →
    ∀ (pins : List (Addr × Obj)) (s : Shared) (us : List Value), Inv X pins σ H s → Vals xs us → wpAny (model X.prog X.w) X.A (call F us) (EP X pins σ Q) X.xe s
theorem Ev.callBM {x : Str} {id : String} {p : Pos} {e : Expr} {es : List Expr} {g : GA} {f : Store → List D → Option D} (hf : FnSM X T κ (.builtin id) f) (hg : Gl X x) (hm : X.mg x = none) (hv : bootBuiltins x = some (.builtin id)) (ha : Ea X T .v (e :: es) g) (hn : x ≠ "__name__" := by decide)
    (hdb : (x == ("__debug__" : Str)) = false := by decide) (he : starEach (e :: es) X.env = (false, eval e X.env) :: starEach es X.env := by rfl) (hpl : (backTo pos (starEach es X.env)).any (·.1) = false := by rfl) :
    Ev X T κ (.Call (.Name x p) (e :: es) [] pos) (gLM f g) := by
  intro W tk S t σ H Q r q pins s I
  refine wpAny_Call_Name_kw (L2.ld_blt I hg hm hv ?_ hn hdb)
  refine PyProof.Rows.callWith_builtin1 ?_ he hpl
  have z : wA X (e :: es) σ H (fun vs H1 => ∀ (pins : List (Addr × Obj)) (s : Shared) (us : List Value), Inv X pins σ H1 s → Vals vs us → wpAny (model X.prog X.w) X.A (PySem.call (.builtin id) us) (EP X pins σ Q) X.xe s) := by
    refine ha W tk S t σ H _ r (EPost.bindA (κ1 := .v) q fun ds m vs H' S' nx hm rs rep p' => ?_)
    cases e : f m ds with
    | none => unfold lift at p'; rw [e] at p'; exact p'.elim
    | some d =>
      unfold lift at p'; rw [e] at p'
      exact hf S' t σ H' vs ds d Q rs rep (by rw [hm]; exact e) fun v H2 S2 n2 hm2 rs2 rep2 => p' v H2 S2 n2 (hm2.trans hm) rs2 rep2
  exact L2.thn (z pos pins s I) fun us s1 ⟨vs, H1, I1, r1, z⟩ => z pins s1 us I1 r1
theorem FnSM.repr (hX : X.K = T.K) (hgd : X.A.guards = some []) (hu : X.A.units + 65 < cLine) : FnSM X T κ (.builtin "repr") dReprM := by
  intro S t σ H xs ds d Q r ra e k pins s us I ru
  unfold dReprM at e
  split at e
  · rename_i d0
    split at e
    · rename_i h
      obtain ⟨h1, h2, h3, h4⟩ := h
      cases e
      obtain ⟨v, rfl, rv⟩ := ra.one
      obtain ⟨u, rfl, ru2⟩ := L2.Vals.one ru
      obtain ⟨oa, sa⟩ := fine_sh h2
      have hd := rv.dpM r oa
      rw [← hX] at hd
      obtain ⟨as, rd⟩ := Dp.reads I _ v u hd ru2
      have hv : ∃ a, u = .ref a := by
        cases d0 with
        | lst xs => obtain ⟨a, vs, rfl, _⟩ := rv.sq r; exact ⟨a, ru2⟩
        | tup xs => obtain ⟨a, vs, rfl, _⟩ := rv.tq; exact ⟨a, ru2⟩
        | obj k =>
          have rt := rv.tree fun z => z
          cases rt with
          | obj hk => exact ⟨_, ru2⟩
        | _ => cases h1
      obtain ⟨a, rfl⟩ := hv
      have hdep : (toPy (der 2 S.mu d0)).depth ≤ 60 := by
        rw [dep_py]
        unfold fine at h2
        exact of_decide_eq_true (Bool.and_eq_true_iff.mp h2).2
      refine repr_of_reads' rd h3 (PyData.noDict_hsm (PyData.hasDict_of_canLay _ (lay_ok oa))) hgd (Nat.lt_of_le_of_lt (Nat.add_le_add_left (Nat.succ_le_succ hdep) _) (by omega)) (fun _ _ e => e) (fun h' u tk hk => ?_) (by
        have : (reprT (der 2 S.mu d0)).length = (toPy (der 2 S.mu d0)).shown.length := by unfold reprT tlS Str.length; rw [Array.length_toList]
        rw [← this, lim_eq]; exact h4)
      refine ⟨.str (toPy (der 2 S.mu d0)).shown, H, I.kept hk, ⟨_, rfl⟩, ?_⟩
      have e3 : (toPy (der 2 S.mu d0)).shown = sT (reprT (der 2 S.mu d0)) := (tl_sT _).symm
      rw [e3]
      exact fin0 k r (Rep.strS _)
    · cases e
  · cases e
/-- a list's handle, or a list: what stands there -/
theorem RepK.sqM (r : RS T S t σ H) {x : V} {d : D} {ds : List D} (h : RepK T .v S t H x d) (e : der1 S.mu d = .lst ds) : ∃ a vs, x = .ref a ∧ SqL T.K H a vs ∧ Reps T S.io H vs ds := by
  cases d with
  | lst xs => cases e; exact h.sq r
  | obj k =>
    have e : (match S.mu[k]? with
      | some (.lst xs) => D.lst xs
      | _ => D.obj k) = D.lst ds := e
    have rt := h.tree fun z => z
    cases rt with
    | obj hk =>
      rename_i a
      cases q : S.mu[k]? with
      | none => rw [q] at e; cases e
      | some c =>
        rw [q] at e
        cases c with
        | lst xs =>
          cases e
          obtain ⟨vs, eh, rr⟩ := r.g.cell k a (.lst _) hk q
          exact ⟨a, vs, rfl, SqL.of eh, rr⟩
        | _ => cases e
  | _ => cases e
theorem FnSM.len (hX : X.K = T.K) : FnSM X T κ (.builtin "len") dLenM := by
  intro S t σ H xs ds d Q r ra e k pins s us I ru
  unfold dLenM at e
  split at e
  · rename_i d0
    by_cases h : der1 S.mu d0 = d0
    · rw [h] at e
      exact FnS.len hX S t σ H xs [d0] d Q r ra e k pins s us I ru
    · have : ∃ ds, der1 S.mu d0 = .lst ds := by
        cases d0 with
        | obj j =>
          cases q : S.mu[j]? with
          | none => exact absurd (by rw [der1_obj, q]) h
          | some c =>
            cases c with
            | lst xs => exact ⟨xs, by rw [der1_obj, q]⟩
            | _ => exact absurd (by rw [der1_obj, q]) h
        | _ => exact absurd rfl h
      obtain ⟨ds, eq⟩ := this
      rw [eq] at e
      cases e
      obtain ⟨v, rfl, rv⟩ := ra.one
      obtain ⟨a, vs, rfl, sq, rr⟩ := rv.sqM r eq
      refine L2.call_len_seq pins s σ H _ us Q I ru ⟨a, vs, rfl, .inl (by rw [hX]; exact sq), ?_⟩
      rw [rr.length]
      exact fin0 k r (.int _)
  · cases e
theorem Ev.slM {a : Expr} {lo hi : Option Expr} {ga : GE} {gl gh : GO} {p2 : Pos} (hX : X.K = T.K) (ha : Ev X T .v a ga) (hl : Eo X T lo gl) (hh : Eo X T hi gh) : Ev X T .n (.Subscript a (.Slice lo hi none p2) pos) (gSlM ga gl gh) := by
  obtain ⟨⟨tl, pl, hl⟩⟩ := hl
  obtain ⟨⟨th, ph, hh⟩⟩ := hh
  intro W tk S t σ H Q r p
  refine PE.w (L2.pe_slice (L2.sl_str.or L2.sl_list) (wE_pe X a) pl ph) ?_
  refine ha W tk S t σ H _ r (EPost.bind (κ1 := .v) p fun d m v H1 S1 nx hm rs rep p1 => ?_)
  refine hl W tk S1 t σ H1 _ rs ?_
  rw [hm]
  refine EPost.bindO p1 fun lo m2 H2 S2 nx2 hm2 rs2 p2 => ?_
  refine hh W tk S2 t σ H2 _ rs2 ?_
  rw [hm2]
  refine EPost.bindO p2 fun hi m3 H3 S3 nx3 hm3 rs3 p3 => ?_
  replace rep := (rep.keep nx2).keep nx3
  cases q : dSl (der1 m3 d) lo hi with
  | none => unfold lift at p3; rw [q] at p3; exact p3.elim
  | some z =>
    unfold lift at p3; rw [q] at p3
    have k : ∀ v H' S', Nxt S3 H3 S' H' → S'.mu = S3.mu → RS T S' t σ H' → RepK T .n S' t H' v z → Q v H' := fun v H' S' n1 h1 r1 rp => p3 v H' S' n1 (h1.trans hm3) r1 rp
    cases e : der1 m3 d with
    | str x =>
      have : d = .str x := by
        cases d with
        | obj j =>
          cases qq : m3[j]? with
          | none => rw [der1_obj, qq] at e; cases e
          | some c =>
            cases c with
            | lst xs => rw [der1_obj, qq] at e; cases e
            | _ => rw [der1_obj, qq] at e; cases e
        | _ => exact e
      subst this
      rw [e] at q
      have q : (if x.length ≤ LIM then some (D.str (cutD x lo hi)) else none) = some z := q
      by_cases hx : x.length ≤ LIM
      · rw [if_pos hx] at q
        cases q
        refine .inl ⟨sT x, rep.str, by rw [sT_len, lim_eq]; exact hx, ?_⟩
        rw [cutS_sT]
        exact fin0 k rs3 (Rep.strS _)
      · rw [if_neg hx] at q; cases q
    | lst ds =>
      rw [e] at q
      cases q
      obtain ⟨a, vs, rfl, sq, rr⟩ := rep.sqM rs3 (by rw [hm3]; exact e)
      exact .inr ⟨a, vs, rfl, by rw [hX]; exact sq, fun p hn => finN k rs3 hn ⟨_, upd_same, cutV_reps (rr.mono (Keep.upd (.inl hn)) (List.prefix_refl _)) _ _⟩⟩
    | _ => rw [e] at q; cases q
/-! ### a new thing made a cell; append to a cell -/
theorem RS.pubE {a : Addr} {d : D} (r : RS T S t σ H) (ow : OwnAt T S.io H a d) (h0 : S.H0 a = none) (hi : a ∉ S.io) (hp : some a ∉ S.ps) :
    RS T { S with io := S.io ++ [a], mu := S.mu ++ [d] } t σ H ∧ Nxt S H { S with io := S.io ++ [a], mu := S.mu ++ [d] } H ∧ Rep T (S.io ++ [a]) H (.ref a) (.obj S.mu.length) := by
  have pre : S.io <+: S.io ++ [a] := List.prefix_append _ _
  have ow' : ∀ {b d}, OwnAt T S.io H b d → OwnAt T (S.io ++ [a]) H b d := fun x => x.mono (Keep.refl _) pre rfl
  refine ⟨⟨⟨r.g.same, r.g.pre.trans pre, fun p hp => ?_, r.g.own, by simp [r.g.len], fun k p c e1 e2 => ?_, ?_, fun p hp' hq => ?_, r.g.psnd⟩, r.l1, r.l2, fun j s v p e1 e2 e3 => ?_⟩, ⟨rfl, rfl, pre, rfl, Keep.refl _⟩, .obj ?_⟩
  · rcases List.mem_append.mp hp with z | z
    · exact r.g.new p z
    · rw [List.mem_singleton.mp z]; exact .inr h0
  · have e1 : (S.io ++ [a])[k]? = some p := e1
    have e2 : (S.mu ++ [d])[k]? = some c := e2
    by_cases hk : k < S.io.length
    · rw [List.getElem?_append_left hk] at e1
      rw [List.getElem?_append_left (by rw [← r.g.len]; exact hk)] at e2
      exact ow' (r.g.cell k p c e1 e2)
    · have hk2 : k < (S.io ++ [a]).length := (List.getElem?_eq_some_iff.mp e1).1
      have hk3 : k = S.io.length := by simp at hk2; omega
      subst hk3
      rw [List.getElem?_concat_length] at e1
      rw [r.g.len, List.getElem?_concat_length] at e2
      cases e1; cases e2
      exact ow' ow
  · exact List.nodup_append.mpr ⟨r.g.nd, by simp, fun x hx y hy => by
      rw [List.mem_singleton.mp hy]
      exact fun e => hi (e ▸ hx)⟩
  · rcases List.mem_append.mp hq with z | z
    · exact r.g.apart p hp' z
    · rw [List.mem_singleton.mp z] at hp'
      exact hp hp'
  · have x := r.sl j s v p e1 e2 e3
    cases s with
    | no => exact x
    | val d => obtain ⟨a1, y, b, c⟩ := x; exact ⟨a1, y, b, c.mono (Keep.refl _) pre⟩
    | own d2 =>
      obtain ⟨b, f, g, x⟩ := x
      exact ⟨b, f, g, ow' x⟩
  · rw [← r.g.len, List.getElem?_concat_length]
theorem Ev.pub {e : Expr} {g : GE} (h : Ev X T .n e g) : Ev X T .t e (gPub g) := by
  intro W tk S t σ H Q r p
  refine h W tk S t σ H _ r (EPost.bind (κ1 := .n) p fun d m v H' S' nx hm rs rep p' => ?_)
  cases d with
  | lst xs =>
    rcases rep with ⟨_, nt⟩ | ⟨a, rfl, ow, h0, hi, hp⟩
    · exact absurd trivial nt
    · obtain ⟨rs2, nx2, rp⟩ := rs.pubE ow h0 hi hp
      have p' : EPost X T .t W S' t σ H' Q (.ok (.obj m.length) (m ++ [.lst xs])) := p'
      rw [← hm] at p'
      exact p' _ H' _ nx2 rfl rs2 rp
  | _ => exact p'.elim
theorem Es.capp {o e : Expr} {go ge : GE} {apos cpos : Pos} (ho : Ev X T .v o go) (he : Ev X T .t e ge)
    (hs : swapsWith (.Call (.Attribute o "append" apos) [e] [] cpos) none pos.line X.env = pure false := by rfl)
    (hbase : attributeBase o "append" X.env (eval o X.env) = eval o X.env := by rfl)
    (hfew : ((backTo cpos (starEach [e] X.env)).all (fun x => !x.1) && (backToKw cpos (keywordEach [] X.env)).all (fun x => x.1.isSome)
      && decide ([e].length + ([] : List Keyword).length + (if ([] : List Keyword).isEmpty then 0 else 1) < 30)) = true := by rfl)
    (hline : (apos.endLine == cpos.line) = true := by rfl) (hst : starEach [e] X.env = (false, eval e X.env) :: starEach [] X.env := by rfl) (hplain : (backTo cpos (starEach [] X.env)).any (·.1) = false := by rfl) :
    Es X T (.Expr (.Call (.Attribute o "append" apos) [e] [] cpos) pos) (sCapp go ge) := by
  intro W tk S t σ H E r p
  refine PS.w (L2.ps_expr (L2.pe_bm PySem.F.plainAttrs_list PySem.F.slot_list_append PySem.F.type_list_append L2.mt_append (wE_pe X o) (L2.pa_cons (wE_pe X e) L2.pa_nil hst) hbase hfew hline hst hplain) hs) ?_
  refine ho W tk S t σ H _ r (SPost.bind (κ1 := .v) p fun x m v H1 S1 nx1 hm1 rs1 rep1 p1 => ?_)
  cases x with
  | obj k =>
    have rt := rep1.tree fun z => z
    cases rt with
    | obj hk =>
      rename_i a
      dsimp only at p1
      obtain ⟨xs0, q0⟩ : ∃ xs0, m[k]? = some (.lst xs0) := by
        cases q0 : m[k]? with
        | none => rw [q0] at p1; exact p1.elim
        | some c0 =>
          rw [q0] at p1
          cases c0 with
          | lst xs0 => exact ⟨xs0, rfl⟩
          | _ => exact p1.elim
      rw [q0] at p1
      dsimp only at p1
      rw [← hm1] at q0
      obtain ⟨vs0, eh0, _⟩ := rs1.g.cell k a (.lst xs0) hk q0
      refine ⟨.inl ⟨rfl, _, SqL.of eh0⟩, ?_⟩
      refine he W tk S1 t σ H1 _ rs1 ?_
      rw [hm1]
      refine SPost.bind (κ1 := .t) p1 fun d m2 v2 H2 S2 nx2 hm2 rs2 rep2 p2 => ?_
      cases q : m2[k]? with
      | none => rw [q] at p2; exact p2.elim
      | some c =>
        rw [q] at p2
        cases c with
        | lst xs =>
          have hk' := pre_get nx2.io hk
          rw [← hm2] at q
          have ow := rs2.g.cell k a (.lst xs) hk' q
          obtain ⟨vs, eh, rr⟩ := id ow
          by_cases hl : xs.length < LIM
          · dsimp only at p2
            rw [if_pos hl] at p2
            refine ⟨a, vs, v2, rfl, rfl, eh, by rw [rr.length, lim_eq]; exact hl, ?_⟩
            have kp : Keep H2 (upd H2 a (.lst (vs ++ [v2]))) := Keep.upd (.inr (by rw [eh]; trivial))
            obtain ⟨rs3, kp⟩ := rs2.cellw (o := .lst (vs ++ [v2])) (c' := .lst (xs ++ [d])) hk' q ⟨_, upd_same, (rr.mono kp (List.prefix_refl _)).app (.cons (Rep.mono kp (List.prefix_refl _) rep2) .nil)⟩
            exact p2 { S2 with mu := S2.mu.set k (.lst (xs ++ [d])) } σ _ ⟨rfl, rfl, List.prefix_refl _, kp⟩ (by rw [← hm2]) rs3
          · dsimp only at p2
            rw [if_neg hl] at p2; exact p2.elim
        | _ => exact p2.elim
  | _ => exact p1.elim
end
end TL
set_option Elab.async false
set_option linter.all false
set_option maxRecDepth 100000
set_option maxHeartbeats 2000000
/-! TLy: short forms for printed walks. -/
namespace TL
open PySem PySem.Spec
open PyProof.Rows hiding St
open L2 (V HO Hp Cx Inv VK TE TS TO TI TG TGs TT It Ends SqL SqT Vis Loc Gl PG PGs gName Takes Vals FunD defArgs defBody defScope WX)
section
variable {X : Cx} {T : Tab} {κ : Kd} {pos : Pos}
theorem Ev.pv (i : Nat) {x : Str} (hN : X.N[i]? = some x := by rfl) (hv : Vis X.env.scope x := by first | exact Or.inl rfl | exact Or.inr (Or.inl rfl) | exact Or.inr (Or.inr rfl)) (hd : (x == ("__debug__" : Str)) = false := by decide) (hcd : (x == ("__classdict__" : Str)) = false := by decide) :
    Ev X T .t (.Name x pos) (gVar i) := Ev.var hN hv hd hcd
theorem Ev.ps (i : Nat) {x : Str} (hN : X.N[i]? = some x := by rfl) (hv : Vis X.env.scope x := by first | exact Or.inl rfl | exact Or.inr (Or.inl rfl) | exact Or.inr (Or.inr rfl)) (hd : (x == ("__debug__" : Str)) = false := by decide) (hcd : (x == ("__classdict__" : Str)) = false := by decide) :
    Ev X T .v (.Name x pos) (gSee i) := Ev.see hN hv hd hcd
theorem Es.st (i : Nat) {x : Str} {e : Expr} {g : GE} {pos' : Pos} (hN : X.N.Nodup) (he : Ev X T .t e g) (hi : X.N[i]? = some x := by rfl) (hx : Loc X.env.scope x := by first | exact Or.inl rfl | exact Or.inr rfl) (hs : swapsWith e (some (.Name x pos')) pos.line X.env = pure false := by rfl)
    (hf : X.fn x = true ∨ X.env.scope.names.lookup x = some .local := by first | exact .inl rfl | exact .inr rfl) : Es X T (.Assign [.Name x pos'] e pos) (sSet i g) := Es.set he hN hi hx hs hf
theorem Es.nw (i : Nat) {x : Str} {e : Expr} {g : GE} {pos' : Pos} (hN : X.N.Nodup) (he : Ev X T .n e g) (hi : X.N[i]? = some x := by rfl) (hx : Loc X.env.scope x := by first | exact Or.inl rfl | exact Or.inr rfl) (hs : swapsWith e (some (.Name x pos')) pos.line X.env = pure false := by rfl)
    (hf : X.fn x = true ∨ X.env.scope.names.lookup x = some .local := by first | exact .inl rfl | exact .inr rfl) : Es X T (.Assign [.Name x pos'] e pos) (sNew i g) := Es.new he hN hi hx hs hf
theorem Es.lcn (i : Nat) {y : Str} {py spos : Pos} {elt tg iter : Expr} {ifs : List Expr} {scope : Scope} {own : List (Str × Nat)} {gi : GI} {g : Tg} {gc : GB} {ge : GE} (hX : X.K = T.K) (hc : X.calm = true) (hN : X.N.Nodup) (hi : Ei X T tg iter gi) (ok : L2.BlkOk X.N X.env.scope scope own) (hv : ∀ i ∈ g.ix, i ∈ own.map (·.2))
    (hg : ∀ (s : Shared) (H : Hp) (C : Addr) (cl : List (Str × Addr)) (fp : List Addr), PG (X.blk s H scope (compEnvC scope cl C X.env) fp) tg (tgOf T.K g))
    (ht : ∀ (s : Shared) (H : Hp) (C : Addr) (cl : List (Str × Addr)) (fp : List Addr), Ets (X.blk s H scope (compEnvC scope cl C X.env) fp) T ifs gc)
    (he : ∀ (s : Shared) (H : Hp) (C : Addr) (cl : List (Str × Addr)) (fp : List Addr), Ev (X.blk s H scope (compEnvC scope cl C X.env) fp) T .t elt ge)
    (hy : X.N[i]? = some y := by rfl) (hyl : X.env.scope.names.lookup y = some .local := by rfl) (hsw : swapsWith (.ListComp elt [⟨tg, iter, ifs, 0⟩] scope pos) (some (.Name y py)) spos.line X.env = pure true := by rfl) (hs : ∀ x, foldedSetIterable iter X.env x = pure x := by intro _; rfl) :
    Es X T (.Assign [.Name y py] (.ListComp elt [⟨tg, iter, ifs, 0⟩] scope pos) spos) (sNew i (gLc (own.map (·.2)) gi g gc ge)) := Es.newLc hX hc hN hy hyl hsw hi ok hv hg ht he hs
/-- a comparison as a test -/
theorem tB_post {W : WX} {S : Sx} {t : Fr} {σ : L2.St} {H : Hp} {Q : Bool → Hp → Prop} {g : GE} (p : BPost X T W S t σ H Q (tB g t S.mu)) : EPost X T .t W S t σ H (fun v H' => ∃ c, v = .bl c ∧ Q c H') (g t S.mu) :=
  BPost.bind (κ1 := .t) p fun d m v H' S' nx hm rs rep p' => by
    cases d with
    | bl b => exact ⟨b, rep.bl, p' H' S' (Nxt.refl _ _) hm rs⟩
    | _ => exact p'.elim
theorem Et.cmp {op : CmpOp} {a b : Expr} {ga gb : GE} {f : D → D → Option D} (ho : Op2 X T .t (compareOp op) f) (ha : Ev X T .v a ga) (hb : Ev X T .v b gb) (hm : behindInMarks op b = false := by rfl) : Et X T (.Compare a [op] [b] pos) (tB (g2 f ga gb)) := by
  intro W tk S t σ H Q r p pins s I
  exact wpAny_isTrue_Compare1 (L2.thn (op2_bind ho ha hb tk r (tB_post p) I) fun v s1 h1 => L2.thn h1 fun u s2 h2 => L2.thn h2 fun c s3 ⟨x, H1, I1, r1, q1⟩ => by
    obtain ⟨d, rfl, q⟩ := q1
    cases r1
    exact wpAny_truthy_bool ⟨H1, I1, q⟩) hm
theorem Et.cmpM {op : CmpOp} {a b : Expr} {ga gb : GE} {f : Store → D → D → Option D} (ho : Op2M X T .t (compareOp op) f) (ha : Ev X T .v a ga) (hb : Ev X T .v b gb) (hm : behindInMarks op b = false := by rfl) : Et X T (.Compare a [op] [b] pos) (tB (g2M f ga gb)) := by
  intro W tk S t σ H Q r p pins s I
  exact wpAny_isTrue_Compare1 (L2.thn (op2M_bind ho ha hb tk r (tB_post p) I) fun v s1 h1 => L2.thn h1 fun u s2 h2 => L2.thn h2 fun c s3 ⟨x, H1, I1, r1, q1⟩ => by
    obtain ⟨d, rfl, q⟩ := q1
    cases r1
    exact wpAny_truthy_bool ⟨H1, I1, q⟩) hm
theorem pgn (i : Nat) {x : Str} (hN : X.N.Nodup) (hi : X.N[i]? = some x := by rfl) (hx : Loc X.env.scope x := by first | exact Or.inl rfl | exact Or.inr rfl) (hf : X.fn x = true ∨ X.env.scope.names.lookup x = some .local := by first | exact .inl rfl | exact .inr rfl) : PG X (.Name x pos) (gName i) := L2.pg_name hN hi hx hf
end
abbrev FnP (K : PySem.W.Frag) (x : Str) (st : Stmt) (f : Addr) (fd : FuncData) : Prop := FunD K x x (defArgs st) (defBody st) (defScope st) [] [] f fd
theorem FnD_lk {K : PySem.W.Frag} {x : Str} {st : Stmt} {f : Addr} {fd : FuncData} (F : FnP K x st f fd) : ∃ (oc : Value) (od : Option Addr) (dV kV doc pm : Value) (an : Option Addr) (cdv ct : Value) (osl : Array (Option Value)),
      fd = PySem.W.fnOf x x (defArgs st) (defBody st) (defScope st) dV kV doc pm an cdv ct ∧ K.lookup f = some ⟨oc, od, .func fd, osl⟩ ∧ PySem.W.codeIn K cdv x = true := by
  obtain ⟨oc, od, dV, kV, doc, pm, an, cdv, ct, osl, h1, h2, h3, _, _⟩ := F.ex
  exact ⟨oc, od, dV, kV, doc, pm, an, cdv, ct, osl, h1, h2, h3⟩
/-- a def without defaults, called by names -/
theorem FnD_KB {K : PySem.W.Frag} {x qual : Str} {params : Arguments} {body : List Stmt} {scope : Scope} {kws : List (Str × V)} {f : Addr} {fd : FuncData} {ps : List Str} {np : Nat} {ks : List Str} {pm : List Nat} (F : FunD K x qual params body scope [] kws f fd)
    (h : ∀ (kV doc pm' : Value) (an : Option Addr) (cdv ct : Value) (us ws : List Value), us.length = np → ws.length = ks.length → bindArgs (PySem.W.fnOf x qual params body scope .none kV doc pm' an cdv ct) ⟨us, ks.zip ws⟩ = pure (ps.zip (pm.filterMap fun i => (us ++ ws)[i]?))) : KB K fd ps np ks pm := fun s us ws _ h1 h2 => by
  obtain ⟨oc, od, dV, kV, doc, pm, an, cdv, ct, osl, rfl, lk, hcd, hD, hK⟩ := F.ex
  rcases hD with ⟨_, rfl⟩ | ⟨e, _⟩
  · exact .of_eq (h kV doc pm an cdv ct us ws h1 h2)
  · exact absurd rfl e
theorem gcons_len {a : GE} {g : GA} {n : Nat} (h : ∀ t m ds m', g t m = .ok ds m' → ds.length = n) : ∀ t m ds m', gCons a g t m = .ok ds m' → ds.length = n + 1 := fun t m ds m' e => by
  unfold gCons at e
  cases q : a t m with
  | ok x m1 =>
    rw [q] at e
    have e : (g t m1).bind (fun xs m => .ok (x :: xs) m) = .ok ds m' := e
    cases q2 : g t m1 with
    | ok xs m2 =>
      rw [q2] at e
      cases e
      rw [List.length_cons, h _ _ _ _ q2]
    | exc c fs m2 => rw [q2] at e; cases e
    | bad => rw [q2] at e; cases e
  | exc c fs m1 => rw [q] at e; cases e
  | bad => rw [q] at e; cases e
theorem klen0 : ∀ t m ds m', gNil t m = .ok ds m' → ds.length = 0 := fun t m ds m' e => by cases e; rfl
theorem klen1 {a : GE} : ∀ t m ds m', gCons a gNil t m = .ok ds m' → ds.length = 1 := gcons_len klen0
theorem klen2 {a b : GE} : ∀ t m ds m', gCons a (gCons b gNil) t m = .ok ds m' → ds.length = 2 := gcons_len klen1
theorem klen3 {a b c : GE} : ∀ t m ds m', gCons a (gCons b (gCons c gNil)) t m = .ok ds m' → ds.length = 3 := gcons_len klen2
theorem Cal.of {T : Tab} {P : Program} {w : World} {mg : Str → Option Value} {base : Heap} {k : Nat} {x : Str} {np n : Nat} {b : GS} {a : Addr} {fd : FuncData} {ps : List Str} (F : FnG P w T.K mg base k a fd ps (spT T np (fnM np n b))) (hm : mg x = some (.ref a))
    (kp : PySem.W.keepIn T.K (.ref a) = true) (hb : L2.Binds T.K fd ps []) (hl : ps.length = np) : Cal T P w mg base k x np (fnM np n b) := ⟨⟨a, fd, ps, F, hm, kp, hb, hl⟩, fnM_bad⟩
theorem CalK.of {T : Tab} {P : Program} {w : World} {mg : Str → Option Value} {base : Heap} {k : Nat} {x : Str} {np n q : Nat} {ks : List Str} {pm : List Nat} {b : GS} {a : Addr} {fd : FuncData} {ps : List Str} (F : FnG P w T.K mg base k a fd ps (spT T np (fnM np n b))) (hm : mg x = some (.ref a))
    (kp : PySem.W.keepIn T.K (.ref a) = true) (hb : KB T.K fd ps q ks pm) (hl : ps.length = np) : CalK T P w mg base k x np (fnM np n b) q ks pm := ⟨⟨a, fd, ps, F, hm, kp, hb, hl⟩, fnM_bad⟩
end TL
set_option Elab.async false
set_option linter.all false
set_option maxRecDepth 100000
set_option maxHeartbeats 2000000
/-! TLr: plain rules about the combinators: comprehensions, loops, repr. -/
namespace TL
/-- a comprehension that leaves the store as it is -/
theorem lcM_fm {g : Tg} {c : GB} {e : GE} {t : Fr} {m : Store} {p : D → Bool} {f : D → D} : ∀ {ds acc : List D},
    (∀ d ∈ ds, ∃ t', g.bind d t = some t' ∧ c t' m = .ok (p d) m ∧ (p d = true → e t' m = .ok (f d) m)) → acc.length + ds.length ≤ LIM → lcM g c e t ds acc m = .ok (acc ++ (ds.filter p).map f) m
  | [], acc, _, _ => by unfold lcM; simp
  | d :: ds, acc, h, hl => by
    obtain ⟨t', h1, h2, h3⟩ := h d List.mem_cons_self
    have ih := fun acc' hl' => lcM_fm (ds := ds) (acc := acc') (fun x hx => h x (List.mem_cons_of_mem _ hx)) hl'
    have hl : acc.length + (ds.length + 1) ≤ LIM := hl
    unfold lcM
    rw [h1]
    dsimp only
    rw [h2]
    cases q : p d with
    | true =>
      dsimp only
      rw [h3 q]
      dsimp only
      rw [if_pos (by omega), ih _ (by simp; omega), List.filter_cons_of_pos q]
      simp
    | false =>
      dsimp only
      rw [ih _ (by omega), List.filter_cons_of_neg (by rw [q]; exact Bool.false_ne_true)]
theorem gLc_fm {vs : List Nat} {it : GI} {g : Tg} {c : GB} {e : GE} {t : Fr} {m m1 : Store} {ds : List D} {p : D → Bool} {f : D → D} (hn : noOwn t vs = true) (hi : it t m = .ok ds m1)
    (h : ∀ d ∈ ds, ∃ t', g.bind d (wipeF t vs) = some t' ∧ c t' m1 = .ok (p d) m1 ∧ (p d = true → e t' m1 = .ok (f d) m1)) (hl : ds.length ≤ LIM) : gLc vs it g c e t m = .ok (.lst ((ds.filter p).map f)) m1 := by
  unfold gLc
  rw [if_pos hn, hi]
  show (lcM g c e (wipeF t vs) ds [] m1).bind _ = _
  rw [lcM_fm h (by simpa using hl)]
  rfl
theorem gLc_map {vs : List Nat} {it : GI} {g : Tg} {e : GE} {t : Fr} {m m1 : Store} {ds : List D} {f : D → D} (hn : noOwn t vs = true) (hi : it t m = .ok ds m1)
    (h : ∀ d ∈ ds, ∃ t', g.bind d (wipeF t vs) = some t' ∧ e t' m1 = .ok (f d) m1) (hl : ds.length ≤ LIM) : gLc vs it g tYes e t m = .ok (.lst (ds.map f)) m1 := by
  have := gLc_fm (c := tYes) (p := fun _ => true) hn hi (fun d hd => by
    obtain ⟨t', h1, h2⟩ := h d hd
    exact ⟨t', h1, rfl, fun _ => h2⟩) hl
  rw [this, List.filter_eq_self.mpr fun _ _ => rfl]
/-- a comprehension whose element changes the store -/
theorem lcM_inv {g : Tg} {e : GE} {t : Fr} {I : Store → Prop} {R : D → Prop} : ∀ {ds acc : List D} {m : Store}, I m →
    (∀ d ∈ ds, ∀ m, I m → ∃ t' x m', g.bind d t = some t' ∧ e t' m = .ok x m' ∧ I m' ∧ R x) → acc.length + ds.length ≤ LIM → ∃ xs m', lcM g tYes e t ds acc m = .ok (acc ++ xs) m' ∧ I m' ∧ (∀ x ∈ xs, R x) ∧ xs.length = ds.length
  | [], acc, m, hI, _, _ => ⟨[], m, by unfold lcM; simp, hI, (fun _ h => absurd h List.not_mem_nil), rfl⟩
  | d :: ds, acc, m, hI, h, hl => by
    obtain ⟨t', x, m1, h1, h2, h3, h4⟩ := h d List.mem_cons_self m hI
    have hl : acc.length + (ds.length + 1) ≤ LIM := hl
    obtain ⟨xs, m2, h5, h6, h7, h8⟩ := lcM_inv (ds := ds) (acc := acc ++ [x]) h3 (fun y hy => h y (List.mem_cons_of_mem _ hy)) (by simp; omega)
    refine ⟨x :: xs, m2, ?_, h6, fun y hy => ?_, by simp [h8]⟩
    · unfold lcM
      rw [h1]
      dsimp only
      rw [show tYes t' m = .ok true m from rfl]
      dsimp only
      rw [h2]
      dsimp only
      rw [if_pos (by omega), h5]
      simp
    · rcases List.mem_cons.mp hy with rfl | hy
      · exact h4
      · exact h7 y hy
theorem gLc_inv {vs : List Nat} {it : GI} {g : Tg} {e : GE} {t : Fr} {m m1 : Store} {ds : List D} {I : Store → Prop} {R : D → Prop} (hn : noOwn t vs = true) (hi : it t m = .ok ds m1) (hI : I m1)
    (h : ∀ d ∈ ds, ∀ m, I m → ∃ t' x m', g.bind d (wipeF t vs) = some t' ∧ e t' m = .ok x m' ∧ I m' ∧ R x) (hl : ds.length ≤ LIM) : ∃ xs m', gLc vs it g tYes e t m = .ok (.lst xs) m' ∧ I m' ∧ (∀ x ∈ xs, R x) ∧ xs.length = ds.length := by
  obtain ⟨xs, m', h1, h2⟩ := lcM_inv (acc := []) hI h (by simpa using hl)
  refine ⟨xs, m', ?_, h2⟩
  unfold gLc
  rw [if_pos hn, hi]
  show (lcM g tYes e (wipeF t vs) ds [] m1).bind _ = _
  rw [h1]
  rfl
/-- a loop that runs to its end: J k holds at the k-th turn -/
theorem forM_inv {g : Tg} {body : GS} {J : Nat → Fr → Store → Prop} : ∀ {ds : List D} {k : Nat} {t : Fr} {m : Store}, J k t m →
    (∀ (i : Nat) (d : D), ds[i]? = some d → ∀ t m, J (k + i) t m → ∃ t1 t' m', g.bind d t = some t1 ∧ (body t1 m = .next t' m' ∨ body t1 m = .cont t' m') ∧ J (k + i + 1) t' m') → ∃ t' m', forM g body ds t m = .next t' m' ∧ J (k + ds.length) t' m'
  | [], k, t, m, hJ, _ => ⟨t, m, by unfold forM; rfl, hJ⟩
  | d :: ds, k, t, m, hJ, h => by
    obtain ⟨t1, t', m', h1, h2, h3⟩ := h 0 d rfl t m hJ
    obtain ⟨t2, m2, h4, h5⟩ := forM_inv (ds := ds) (k := k + 1) h3 (fun i x hx t m hj => by
      have e : k + 1 + i = k + (i + 1) := by omega
      rw [e] at hj ⊢
      exact h (i + 1) x (by simpa using hx) t m hj)
    refine ⟨t2, m2, ?_, by rw [List.length_cons]; have e : k + 1 + ds.length = k + (ds.length + 1) := by omega
                           rw [← e]; exact h5⟩
    unfold forM
    rw [h1]
    dsimp only
    rcases h2 with h2 | h2 <;> rw [h2] <;> exact h4
theorem sFor_inv {it : GI} {g : Tg} {body : GS} {J : Nat → Fr → Store → Prop} {ds : List D} {t : Fr} {m m1 : Store} (hi : it t m = .ok ds m1) (h0 : J 0 t m1)
    (h : ∀ (i : Nat) (d : D), ds[i]? = some d → ∀ t m, J i t m → ∃ t1 t' m', g.bind d t = some t1 ∧ (body t1 m = .next t' m' ∨ body t1 m = .cont t' m') ∧ J (i + 1) t' m') : ∃ t' m', sFor it g body t m = .next t' m' ∧ J ds.length t' m' := by
  obtain ⟨t', m', h1, h2⟩ := forM_inv (g := g) (body := body) (J := J) (ds := ds) (k := 0) h0 (fun i d hd t m hj => by
    rw [Nat.zero_add] at hj ⊢
    exact h i d hd t m hj)
  rw [Nat.zero_add] at h2
  refine ⟨t', m', ?_, h2⟩
  unfold sFor ofL
  rw [hi]
  exact h1
theorem seq_next {a b : GS} {t t' : Fr} {m m' : Store} (h : a t m = .next t' m') : sSeq a b t m = b t' m' := by
  unfold sSeq
  rw [h]
theorem fnM_ret {np n : Nat} {b : GS} {ds : List D} {m m' : Store} {f : Bool} {d : D} (h : ds.length = np) (e : b (ds.map .val ++ List.replicate (n - ds.length) .no) m = .ret f d m') : fnM np n b ds m = .ok (f, d) m' := by
  unfold fnM
  rw [if_pos h, e]
/-! ### repr -/
mutual
/-- its ints are short, its texts are texts -/
def shortD : D → Bool
  | .non => true
  | .bl _ => true
  | .int i => decide (i.natAbs < 10 ^ 12)
  | .str x => textOk x
  | .lst xs => shortDs xs
  | .tup xs => shortDs xs
  | _ => false
def shortDs : List D → Bool
  | [] => true
  | x :: xs => shortD x && shortDs xs
end
mutual
def wtD : D → Nat
  | .int _ => 40
  | .str x => x.length
  | .lst xs => wtDs xs
  | .tup xs => wtDs xs
  | _ => 0
def wtDs : List D → Nat
  | [] => 0
  | x :: xs => wtD x + 1 + wtDs xs
end
mutual
theorem short_ok : ∀ {d : D}, shortD d = true → okD d = true
  | .non, _ => by unfold okD; rfl
  | .bl _, _ => by unfold okD; rfl
  | .int _, _ => by unfold okD; rfl
  | .str x, h => by unfold shortD at h; unfold okD; exact h
  | .lst xs, h => by unfold shortD at h; unfold okD; exact shorts_ok h
  | .tup xs, h => by unfold shortD at h; unfold okD; exact shorts_ok h
  | .dct _, h => by unfold shortD at h; cases h
  | .ins _ _, h => by unfold shortD at h; cases h
  | .obj _, h => by unfold shortD at h; cases h
theorem shorts_ok : ∀ {d : List D}, shortDs d = true → okDs d = true
  | [], _ => by unfold okDs; rfl
  | x :: xs, h => by
    unfold shortDs at h
    have h := Bool.and_eq_true_iff.mp h
    unfold okDs
    rw [short_ok h.1, shorts_ok h.2]; rfl
end
open PySem in
theorem log_short {i : Int} (h : i.natAbs < 10 ^ 12) (h0 : i.natAbs ≠ 0) : i.natAbs.log2 < 40 := by
  rw [Nat.log2_lt h0]
  omega
open PySem in
mutual
theorem short_py : ∀ {d : D}, shortD d = true → (toPy d).leavesShort 13 = true ∧ (toPy d).showable = true ∧ (toPy d).weight ≤ wtD d
  | .non, _ => by simp only [toPy, PyData.leavesShort, PyData.showable, PyData.weight, wtD]; simp
  | .bl _, _ => by simp only [toPy, PyData.leavesShort, PyData.showable, PyData.weight, wtD]; simp
  | .int i, h => by
    unfold shortD at h
    have h := of_decide_eq_true h
    simp only [toPy, PyData.leavesShort, PyData.showable, PyData.weight, wtD]
    refine ⟨decide_eq_true (PyData.shown_int_le h), decide_eq_true ?_, ?_⟩
    · by_cases h0 : i.natAbs = 0
      · rw [h0]; decide
      · have := log_short h h0; omega
    · split
      · omega
      · rename_i q
        have := log_short h (fun z => q (by simp; omega))
        omega
  | .str x, h => by
    unfold shortD textOk at h
    simp only [toPy, PyData.leavesShort, PyData.showable, PyData.weight, wtD, sT]
    refine ⟨?_, trivial, by simp⟩
    simp at h ⊢
    intro c hc
    have := h c hc
    omega
  | .lst xs, h => by
    unfold shortD at h
    obtain ⟨a, b, c⟩ := shorts_py h
    simp only [toPy, PyData.leavesShort, PyData.showable, PyData.weight, wtD]
    exact ⟨a, b, c⟩
  | .tup xs, h => by
    unfold shortD at h
    obtain ⟨a, b, c⟩ := shorts_py h
    simp only [toPy, PyData.leavesShort, PyData.showable, PyData.weight, wtD]
    exact ⟨a, b, c⟩
  | .dct _, h => by unfold shortD at h; cases h
  | .ins _ _, h => by unfold shortD at h; cases h
  | .obj _, h => by unfold shortD at h; cases h
theorem shorts_py : ∀ {d : List D}, shortDs d = true → PyData.leavesShortAll 13 (toPys d) = true ∧ PyData.showableAll (toPys d) = true ∧ PyData.weightAll (toPys d) ≤ wtDs d
  | [], _ => by simp only [toPys, PyData.leavesShortAll, PyData.showableAll, PyData.weightAll, wtDs]; simp
  | x :: xs, h => by
    unfold shortDs at h
    have h := Bool.and_eq_true_iff.mp h
    obtain ⟨a, b, c⟩ := short_py h.1
    obtain ⟨a2, b2, c2⟩ := shorts_py h.2
    simp only [toPys, PyData.leavesShortAll, PyData.showableAll, PyData.weightAll, wtDs, a, b, a2, b2, Bool.and_self]
    exact ⟨trivial, trivial, by omega⟩
end
/-- what repr needs -/
def showOk (d : D) : Bool := shortD d && decide (wtD d ≤ 2 ^ 20) && decide (dep d ≤ 60)
theorem show_ok {d : D} (h : showOk d = true) : fine d = true ∧ (toPy d).showable = true ∧ (reprT d).length ≤ LIM := by
  unfold showOk at h
  have h := Bool.and_eq_true_iff.mp h
  have h1 := Bool.and_eq_true_iff.mp h.1
  obtain ⟨a, b, c⟩ := short_py h1.1
  refine ⟨?_, b, ?_⟩
  · unfold fine
    rw [short_ok h1.1, h.2]; rfl
  · have q := PySem.PyData.shown_fits (B := 13) (by decide) (by decide) a (Nat.le_trans c (of_decide_eq_true h1.2))
    unfold reprT tlS
    rw [Array.length_toList]
    rw [lim_eq] at q
    exact q
theorem show_noObj {d : D} (h : showOk d = true) : noObj d = true := ok_noObj (by
  have := (show_ok h).1
  unfold fine at this
  exact (Bool.and_eq_true_iff.mp this).1)
theorem dReprM_ok {m : Store} {d : D} (hs : isSeq (der1 m d) = true) (h : showOk (der 2 m d) = true) : dReprM m [d] = some (.str (reprT (der 2 m d))) := by
  obtain ⟨a, b, c⟩ := show_ok h
  show (if _ then _ else _) = _
  rw [if_pos ⟨hs, a, b, c⟩]
end TL
set_option Elab.async false
set_option linter.all false
set_option maxRecDepth 100000
set_option maxHeartbeats 0
namespace Wk
open TL
def b_law_deal : GS := (sSeq (sNew 1 (gLc [3] (iSeq (gSl (gSee 0) oNo (oAt (gC (.int 63))))) (.nm 3) tYes (gL dInt (gCons (gSee 3) gNil)))) (sSeq (sFreeze 1) (sSeq (sSet 2 (g2 dAdd (gC (.int 10028)) (g2 dMul (gC (.int 89)) (gL dLen (gCons (gSee 1) gNil))))) (sSeq (sFor (iSeq (gVar 1)) (.nm 3) (sSet 2 (g2 dMod (gL dInt (gCons (g2 dAdd (g2 dMul (gSee 2) (gC (.int 7919))) (gSee 3)) gNil)) (gC (.int 2147483497))))) (sRetF (gL dLst (gCons (gVar 1) (gCons (gC (.int 0)) (gCons (gC (.int 0)) (gCons (gVar 2) gNil))))))))))
def f_law_deal : DF := fnM 1 4 b_law_deal
def b_law_pick : GS := (sSeq (sIf (tB (g2 dLt (gIx (gSee 0) (gC (.int 2))) (gC (.int 2)))) (sSeq (sCset (gSee 0) (gC (.int 1)) (g2 dAdd (gIx (gSee 0) (gC (.int 1))) (gC (.int 1)))) (sSeq (sSet 3 (g2 dAdd (gIx (gSee 0) (gC (.int 3))) (g2 dMul (gIx (gSee 0) (gC (.int 1))) (gC (.int 9343))))) (sSeq (sIf (tB (g2 dLe (gIx (gSee 0) (gC (.int 1))) (gL dLen (gCons (gIx (gSee 0) (gC (.int 0))) gNil)))) (sSet 3 (gIx (gIx (gSee 0) (gC (.int 0))) (g2 dSub (gIx (gSee 0) (gC (.int 1))) (gC (.int 1))))) sNil) (sSeq (sIf (tOr (tB (g2 dGt (gIx (gSee 0) (gC (.int 1))) (gL dLen (gCons (gIx (gSee 0) (gC (.int 0))) gNil)))) (tB (g2 dLt (gSee 3) (g2 dPow (gC (.int 10)) (gC (.int 18)))))) (sSeq (sSet 4 (g2 dMod (gL dInt (gCons (g2 dAdd (g2 dAdd (g2 dMul (gSee 3) (gC (.int 47303))) (g2 dMul (gIx (gSee 0) (gC (.int 1))) (gC (.int 38219)))) (gIx (gSee 0) (gC (.int 3)))) gNil)) (gC (.int 2147483647)))) (sSeq (sSet 5 (g2 dMod (gL dInt (gCons (g2 dAdd (g2 dMul (gSee 4) (gSee 4)) (g2 dMul (gIx (gSee 0) (gC (.int 1))) (gC (.int 51041)))) gNil)) (gC (.int 998244353)))) (sRet (g2 dMod (g2 dDiv (g2 dMod (gL dInt (gCons (g2 dAdd (g2 dMul (gSee 5) (gC (.int 46643))) (gSee 4)) gNil)) (gC (.int 2147483563))) (gC (.int 17))) (gSee 1))))) sNil) (sCset (gSee 0) (gC (.int 2)) (gVar 3)))))) sNil) (sSeq (sSet 2 (g2 dMod (gL dInt (gCons (gIx (gSee 0) (gC (.int 2))) gNil)) (gSee 1))) (sSeq (sCset (gSee 0) (gC (.int 2)) (g2 dDiv (gL dInt (gCons (gIx (gSee 0) (gC (.int 2))) gNil)) (gSee 1))) (sRet (gVar 2)))))
def f_law_pick : DF := fnM 2 6 b_law_pick
def b_law_of : GS := (sRet (gIx (gSee 1) (gCall (dfM f_law_pick) (gCons (gVar 0) (gCons (gLM dLenM (gCons (gSee 1) gNil)) gNil)))))
def f_law_of : DF := fnM 2 2 b_law_of
def b_law_ordinary : GS := (sRet (gMs dJoin (gC (.str [])) (gCons (gLc [1] (iRng1 (gCons (gCall (dfM f_law_pick) (gCons (gVar 0) (gCons (gC (.int 7)) gNil))) gNil)) (.nm 1) tYes (gCall (dfM f_law_of) (gCons (gVar 0) (gCons (gC (.str [97, 97, 98, 46, 49, 57, 95])) gNil)))) gNil)))
def f_law_ordinary : DF := fnM 1 2 b_law_ordinary
def b_law_all_slips : GS := (sSeq (sSet 2 (gL dLst gNil)) (sSeq (sFor (iRng1 (gCons (g2 dAdd (gL dLen (gCons (gSee 0) gNil)) (gC (.int 1))) gNil)) (.nm 3) (sSeq (sSet 2 (g2 dAdd (gSee 2) (gLc [4] (iSeq (gVar 1)) (.nm 4) tYes (g2 dAdd (g2 dAdd (gSl (gSee 0) oNo (oAt (gSee 3))) (gSee 4)) (gSl (gSee 0) (oAt (gSee 3)) oNo))))) (sSeq (sIf (tB (g2 dLt (gSee 3) (gL dLen (gCons (gSee 0) gNil)))) (sSeq (sSet 2 (g2 dAdd (gSee 2) (gL dLst (gCons (g2 dAdd (gSl (gSee 0) oNo (oAt (gSee 3))) (gSl (gSee 0) (oAt (g2 dAdd (gSee 3) (gC (.int 1)))) oNo)) gNil)))) (sSet 2 (g2 dAdd (gSee 2) (gLc [4] (iSeq (gVar 1)) (.nm 4) (tB (g2 dNe (gSee 4) (gIx (gSee 0) (gSee 3)))) (g2 dAdd (g2 dAdd (gSl (gSee 0) oNo (oAt (gSee 3))) (gSee 4)) (gSl (gSee 0) (oAt (g2 dAdd (gSee 3) (gC (.int 1)))) oNo)))))) sNil) (sIf (tAnd (tB (g2 dLt (g2 dAdd (gSee 3) (gC (.int 1))) (gL dLen (gCons (gSee 0) gNil)))) (tB (g2 dNe (gIx (gSee 0) (gSee 3)) (gIx (gSee 0) (g2 dAdd (gSee 3) (gC (.int 1))))))) (sSet 2 (g2 dAdd (gSee 2) (gL dLst (gCons (g2 dAdd (g2 dAdd (g2 dAdd (gSl (gSee 0) oNo (oAt (gSee 3))) (gIx (gSee 0) (g2 dAdd (gSee 3) (gC (.int 1))))) (gIx (gSee 0) (gSee 3))) (gSl (gSee 0) (oAt (g2 dAdd (gSee 3) (gC (.int 2)))) oNo)) gNil)))) sNil)))) (sRetF (g1 dSortSet (gSee 2)))))
def f_law_all_slips : DF := fnM 2 5 b_law_all_slips
def b_is_left_out : GS := (sRet (gL dAny (gCons (gLc [2] (iRng1 (gCons (gL dLen (gCons (gSee 1) gNil)) gNil)) (.nm 2) tYes (g2 dEq (g2 dAdd (gSl (gSee 1) oNo (oAt (gSee 2))) (gSl (gSee 1) (oAt (g2 dAdd (gSee 2) (gC (.int 1)))) oNo)) (gSee 0))) gNil)))
def f_is_left_out : DF := fnM 2 3 b_is_left_out
def b_is_slip : GS := (sSeq (sIf (tB (g2 dEq (gL dLen (gCons (gSee 0) gNil)) (g2 dAdd (gL dLen (gCons (gSee 1) gNil)) (gC (.int 1))))) (sRet (gCall (dfM f_is_left_out) (gCons (gVar 1) (gCons (gVar 0) gNil)))) sNil) (sSeq (sIf (tB (g2 dEq (gL dLen (gCons (gSee 1) gNil)) (g2 dAdd (gL dLen (gCons (gSee 0) gNil)) (gC (.int 1))))) (sRet (gCall (dfM f_is_left_out) (gCons (gVar 0) (gCons (gVar 1) gNil)))) sNil) (sSeq (sIf (tB (g2 dNe (gL dLen (gCons (gSee 0) gNil)) (gL dLen (gCons (gSee 1) gNil)))) (sRet (gC (.bl false))) sNil) (sSeq (sNew 2 (gLc [5] (iRng1 (gCons (gL dLen (gCons (gSee 0) gNil)) gNil)) (.nm 5) (tB (g2 dNe (gIx (gSee 0) (gSee 5)) (gIx (gSee 1) (gSee 5)))) (gVar 5))) (sSeq (sFreeze 2) (sSeq (sIf (tB (g2 dNe (gL dLen (gCons (gSee 2) gNil)) (gC (.int 2)))) (sRet (g2 dEq (gL dLen (gCons (gSee 2) gNil)) (gC (.int 1)))) sNil) (sSeq (sUnp [3, 4] (gSee 2)) (sRet (vAnd (g2 dEq (gSee 4) (g2 dAdd (gSee 3) (gC (.int 1)))) (vAnd (g2 dEq (gIx (gSee 0) (gSee 3)) (gIx (gSee 1) (gSee 4))) (g2 dEq (gIx (gSee 0) (gSee 4)) (gIx (gSee 1) (gSee 3)))))))))))))
def f_is_slip : DF := fnM 2 6 b_is_slip
def b_near : GS := (sRetF (g1 dSortSet (gLc [2] (iSeq (gVar 0)) (.nm 2) (tB (gCall (dfM f_is_slip) (gCons (gVar 2) (gCons (gVar 1) gNil)))) (gVar 2))))
def f_near : DF := fnM 2 3 b_near
def b_surely : GS := (sSeq (sIf (tB (g2 dIn (gSee 1) (gSee 0))) (sRet (gVar 1)) sNil) (sSeq (sSet 2 (gCall (dfM f_near) (gCons (gVar 0) (gCons (gVar 1) gNil)))) (sRet (gIf (tB (g2 dEq (gL dLen (gCons (gSee 2) gNil)) (gC (.int 1)))) (gIx (gSee 2) (gC (.int 0))) (gC .non)))))
def f_surely : DF := fnM 2 3 b_surely
def b_law_same : GS := (sRet (vAnd (g2M dEqM (gSee 0) (gSee 1)) (g2M dEqM (gLM dReprM (gCons (gSee 0) gNil)) (gLM dReprM (gCons (gSee 1) gNil)))))
def f_law_same : DF := fnM 2 2 b_law_same
def b_law : GS := (sSeq (sNew 1 (gCall (dfN f_law_deal) (gCons (gVar 0) gNil))) (sSeq (sPub 1) (sSeq (sFor (iRng1 (gCons (gC (.int 4)) gNil)) (.nm 2) (sSeq (sSet 3 (gCall (dfM f_law_ordinary) (gCons (gVar 1) gNil))) (sSeq (sSet 4 (gPub (gL dLst (gCons (gVar 3) gNil)))) (sSeq (sFor (iRng1 (gCons (gCall (dfM f_law_pick) (gCons (gVar 1) (gCons (gC (.int 6)) gNil))) gNil)) (.nm 5) (sCapp (gSee 4) (gCall (dfM f_law_of) (gCons (gVar 1) (gCons (g2 dAdd (gCall (dfM f_law_all_slips) (gCons (gCall (dfM f_law_of) (gCons (gVar 1) (gCons (gVar 4) gNil))) (gCons (gL dLst (gCons (gC (.str [97])) (gCons (gC (.str [57])) gNil))) gNil))) (gL dLst (gCons (gVar 3) gNil))) gNil))))) (sSeq (sSet 4 (gSlM (gSee 4) (oAt (gCall (dfM f_law_pick) (gCons (gVar 1) (gCons (gC (.int 2)) gNil)))) oNo)) (sSeq (sSet 6 (gCall (dfM f_law_of) (gCons (gVar 1) (gCons (g2 dAdd (g2 dAdd (gL dLst (gCons (gVar 3) gNil)) (gSee 4)) (gCall (dfM f_law_all_slips) (gCons (gVar 3) (gCons (gL dLst (gCons (gC (.str [98])) gNil)) gNil)))) gNil)))) (sSeq (sSet 7 (g1 dSortSet (gLc [11] (iSeq (gVar 4)) (.nm 11) (tB (g2 dIn (gSee 11) (gCall (dfM f_law_all_slips) (gCons (gVar 6) (gCons (g1 dSortSet (gL dList (gCons (gSee 11) gNil))) gNil))))) (gVar 11)))) (sSeq (sSet 8 (gIf (tB (g2 dIn (gSee 6) (gSee 4))) (gVar 6) (gIf (tB (g2M dEqM (gLM dLenM (gCons (gSee 7) gNil)) (gC (.int 1)))) (gIx (gSee 7) (gC (.int 0))) (gC .non)))) (sSeq (sSet 9 (gL dList (gCons (gSee 4) gNil))) (sSeq (sSet 10 (gL dLst (gCons (gPub (gCall (dfN f_near) (gCons (gVar 9) (gCons (gVar 6) gNil)))) (gCons (gCall (dfM f_near) (gPerm [1, 0] (gCons (gVar 6) (gCons (gL dTuple (gCons (gSee 4) gNil)) gNil)))) (gCons (gCall (dfM f_surely) (gCons (gVar 9) (gCons (gVar 6) gNil))) (gCons (gCall (dfM f_surely) (gPerm [1, 0] (gCons (gVar 6) (gCons (gVar 4) gNil)))) gNil)))))) (sSeq (sIf (tOr (tNot (tB (gCall (dfM f_law_same) (gCons (gVar 10) (gCons (gL dLst (gCons (gVar 7) (gCons (gVar 7) (gCons (gVar 8) (gCons (gVar 8) gNil))))) gNil))))) (tB (g2M dNeM (gSee 9) (gSee 4)))) (sRet (gC (.bl false))) sNil) (sSeq (sCapp (gIx (gSee 10) (gC (.int 0))) (gC (.str [113]))) (sIf (tNot (tB (gCall (dfM f_law_same) (gCons (gCall (dfM f_near) (gCons (gVar 4) (gCons (gVar 6) gNil))) (gCons (gVar 7) gNil))))) (sRet (gC (.bl false))) sNil))))))))))))) (sRet (gCall (dfM f_law_same) (gCons (gL dLst (gCons (gCall (dfM f_near) (gCons (gL dLst gNil) (gCons (gC (.str [97])) gNil))) (gCons (gCall (dfM f_surely) (gCons (gL dLst gNil) (gCons (gC (.str [97])) gNil))) (gCons (gCall (dfM f_surely) (gCons (gL dLst (gCons (gC (.str [97, 98])) (gCons (gC (.str [97, 99])) gNil))) (gCons (gC (.str [97])) gNil))) (gCons (gCall (dfM f_surely) (gCons (gL dLst (gCons (gC (.str [97, 98])) (gCons (gC (.str [97, 98])) gNil))) (gCons (gC (.str [97])) gNil))) gNil))))) (gCons (gL dLst (gCons (gL dLst gNil) (gCons (gC .non) (gCons (gC .non) (gCons (gC (.str [97, 98])) gNil))))) gNil)))))))
def f_law : DF := fnM 1 12 b_law
end Wk
set_option Elab.async false
set_option linter.all false
set_option maxRecDepth 100000
set_option maxHeartbeats 4000000
namespace Pl
open TL Wk
/-- the law's deal stands in the first cell -/
structure Deal (m : Store) (cs : List Int) (i v k : Int) : Prop where
  at0 : m[0]? = some (.lst [.lst (cs.map .int), .int i, .int v, .int k])
  ge : 0 ≤ i
def DealOk (m : Store) : Prop := ∃ cs i v k, Deal m cs i v k
/-- alike but for the deal -/
def Alike (m m' : Store) : Prop := m'.length = m.length ∧ ∀ j, j ≠ 0 → m'[j]? = m[j]?
theorem Alike.refl (m : Store) : Alike m m := ⟨rfl, fun _ _ => rfl⟩
theorem Alike.trans {m m1 m2 : Store} (a : Alike m m1) (b : Alike m1 m2) : Alike m m2 := ⟨b.1.trans a.1, fun j h => (b.2 j h).trans (a.2 j h)⟩
theorem Alike.set {m : Store} {d : D} : Alike m (m.set 0 d) := ⟨by simp, fun j h => by rw [List.getElem?_set_ne (Ne.symm h)]⟩
theorem set_at {m : Store} {c d : D} (h : m[0]? = some c) : (m.set 0 d)[0]? = some d := by
  have : 0 < m.length := (List.getElem?_eq_some_iff.mp h).1
  rw [List.getElem?_set_self this]
theorem at_int {cs : List Int} {i : Int} (h0 : 0 ≤ i) (h1 : i < cs.length) : ∃ c, atD (cs.map D.int) i = some (.int c) := by
  have hl : i.toNat < cs.length := by omega
  refine ⟨cs[i.toNat], ?_⟩
  unfold atD ixOf
  rw [List.length_map, if_pos h0, if_pos h1]
  show (cs.map D.int)[i.toNat]? = _
  rw [List.getElem?_map, List.getElem?_eq_getElem hl]
  rfl
theorem at40 {a b c d : D} : atD [a, b, c, d] 0 = some a := rfl
theorem at41 {a b c d : D} : atD [a, b, c, d] 1 = some b := rfl
theorem at42 {a b c d : D} : atD [a, b, c, d] 2 = some c := rfl
theorem at43 {a b c d : D} : atD [a, b, c, d] 3 = some d := rfl
theorem ix41 : ixOf 4 1 = some 1 := rfl
theorem ix42 : ixOf 4 2 = some 2 := rfl
theorem set_set0 {m : Store} {a b : D} : (m.set 0 a).set 0 b = m.set 0 b := List.set_set ..
theorem pick_ok {m : Store} {cs : List Int} {i v k n : Int} (h : Deal m cs i v k) (hn : 0 < n) (hn2 : n < 1073741824) :
    ∃ r m', f_law_pick [.obj 0, .int n] m = .ok (false, .int r) m' ∧ 0 ≤ r ∧ r < n ∧ DealOk m' ∧ Alike m m' := by
  have h0 := h.at0
  have hi := h.ge
  have h1 : ∀ d, (m.set 0 d)[0]? = some d := fun d => set_at h0
  have early : ∀ c : Int, -18446744073709551616 < (c * 47303 + (i + 1) * 38219 + k) % 2147483647 ∧ (c * 47303 + (i + 1) * 38219 + k) % 2147483647 < 18446744073709551616 := fun c => by omega
  by_cases hv : v < 2
  · -- the cell that is drawn
    by_cases hl : i + 1 ≤ (cs.length : Int)
    · obtain ⟨c, hc⟩ := at_int (cs := cs) (i := i) hi (by omega)
      have hc4 : ¬ (cs.length : Int) < i + 1 := by omega
      obtain ⟨he1, he2⟩ := early c
      by_cases hc3 : c < 1000000000000000000
      · refine ⟨(((c * 47303 + (i + 1) * 38219 + k) % 2147483647 * ((c * 47303 + (i + 1) * 38219 + k) % 2147483647) + (i + 1) * 51041) % 998244353 * 46643 + (c * 47303 + (i + 1) * 38219 + k) % 2147483647) % 2147483563 / 17 % n,
          m.set 0 (.lst [.lst (cs.map .int), .int (i + 1), .int v, .int k]), ?_, Int.emod_nonneg _ (by omega), Int.emod_lt_of_pos _ hn, ⟨cs, i + 1, v, k, h1 _, by omega⟩, Alike.set⟩
        simp [ix41, ix42, P64, f_law_pick, fnM, b_law_pick, sSeq, sIf, ofB, tB, g2, gIx, gSee, gC, ret, lift, Out.bind, dIx, h0, h1, at40, at41, at42, at43, dLt, hv, sNil, sSet, ofE, gL, gCons, gNil, dInt, dMod, dDiv, hn, hn2, sCset, gVar, sRet, dAdd, dMul, dLe, dLen, dGt, tOr, dSub, dPow, hl, hc, hc3, hc4, he1, he2]
      · refine ⟨c % n, m.set 0 (.lst [.lst (cs.map .int), .int (i + 1), .int (c / n), .int k]), ?_, Int.emod_nonneg _ (by omega), Int.emod_lt_of_pos _ hn, ⟨cs, i + 1, c / n, k, h1 _, by omega⟩, Alike.set⟩
        simp [ix41, ix42, P64, f_law_pick, fnM, b_law_pick, sSeq, sIf, ofB, tB, g2, gIx, gSee, gC, ret, lift, Out.bind, dIx, h0, h1, at40, at41, at42, at43, dLt, hv, sNil, sSet, ofE, gL, gCons, gNil, dInt, dMod, dDiv, hn, hn2, sCset, gVar, sRet, dAdd, dMul, dLe, dLen, dGt, tOr, dSub, dPow, hl, hc, hc3, hc4, he1, he2]
    · have hc4 : (cs.length : Int) < i + 1 := by omega
      obtain ⟨he1, he2⟩ := early (k + (i + 1) * 9343)
      refine ⟨((((k + (i + 1) * 9343) * 47303 + (i + 1) * 38219 + k) % 2147483647 * (((k + (i + 1) * 9343) * 47303 + (i + 1) * 38219 + k) % 2147483647) + (i + 1) * 51041) % 998244353 * 46643 + ((k + (i + 1) * 9343) * 47303 + (i + 1) * 38219 + k) % 2147483647) % 2147483563 / 17 % n,
          m.set 0 (.lst [.lst (cs.map .int), .int (i + 1), .int v, .int k]), ?_, Int.emod_nonneg _ (by omega), Int.emod_lt_of_pos _ hn, ⟨cs, i + 1, v, k, h1 _, by omega⟩, Alike.set⟩
      simp [ix41, ix42, P64, f_law_pick, fnM, b_law_pick, sSeq, sIf, ofB, tB, g2, gIx, gSee, gC, ret, lift, Out.bind, dIx, h0, h1, at40, at41, at42, at43, dLt, hv, sNil, sSet, ofE, gL, gCons, gNil, dInt, dMod, dDiv, hn, hn2, sCset, gVar, sRet, dAdd, dMul, dLe, dLen, dGt, tOr, dSub, dPow, hl, hc4, he1, he2]
  · refine ⟨v % n, m.set 0 (.lst [.lst (cs.map .int), .int i, .int (v / n), .int k]), ?_, Int.emod_nonneg _ (by omega), Int.emod_lt_of_pos _ hn, ⟨cs, i, v / n, k, set_at h0, hi⟩, Alike.set⟩
    simp [ix41, ix42, P64, f_law_pick, fnM, b_law_pick, sSeq, sIf, ofB, tB, g2, gIx, gSee, gC, ret, lift, Out.bind, dIx, h0, h1, at40, at41, at42, at43, dLt, hv, sNil, sSet, ofE, gL, gCons, gNil, dInt, dMod, dDiv, hn, hn2, sCset, gVar, sRet, dAdd, dMul, dLe, dLen, dGt, tOr, dSub, dPow]
end Pl
set_option Elab.async false
set_option linter.all false
set_option maxRecDepth 100000
set_option maxHeartbeats 4000000
namespace Pl
open TL Wk
theorem cutD_map {α β : Type} (f : α → β) (xs : List α) (lo hi : Option Int) : cutD (xs.map f) lo hi = (cutD xs lo hi).map f := by
  unfold cutD
  rw [List.length_map, List.map_take, List.map_drop]
theorem cutD_le {α : Type} (xs : List α) (lo hi : Option Int) : (cutD xs lo hi).length ≤ xs.length := by
  unfold cutD
  rw [List.length_take, List.length_drop]
  omega
theorem lim_def : LIM = 16777216 := rfl
theorem deal_ok (ns : List Int) (h : ns.length ≤ 63) : ∃ (cs : List Int) (k : Int), f_law_deal [.lst (ns.map .int)] [] = .ok (true, .lst [.lst (cs.map .int), .int 0, .int 0, .int k]) [] := by
  let cs := cutD ns none (some 63)
  have hcs : cs.length ≤ 63 := Nat.le_trans (cutD_le _ _ _) h
  refine ⟨cs, ?_⟩
  have e1 : gLc [3] (iSeq (gSl (gSee 0) oNo (oAt (gC (.int 63))))) (.nm 3) tYes (gL dInt (gCons (gSee 3) gNil)) [.val (.lst (ns.map .int)), .no, .no, .no] [] = .ok (.lst (cs.map .int)) [] := by
    have := gLc_map (vs := [3]) (it := iSeq (gSl (gSee 0) oNo (oAt (gC (.int 63))))) (g := .nm 3) (e := gL dInt (gCons (gSee 3) gNil)) (t := [.val (.lst (ns.map .int)), .no, .no, .no]) (m := []) (m1 := []) (ds := cs.map .int) (f := fun d => d)
      rfl (by
        have q : cutD (ns.map D.int) none (some 63) = cs.map .int := cutD_map _ _ _ _
        simp [iSeq, gSl, gSee, oNo, oAt, gC, ret, lift, Out.bind, dSl, itemsOf, q]) (fun d hd => by
          obtain ⟨i, _, rfl⟩ := List.mem_map.mp hd
          refine ⟨_, rfl, ?_⟩
          simp [wipeF, gL, gCons, gNil, gSee, ret, lift, Out.bind, dInt]) (by rw [List.length_map, lim_def]; omega)
    rw [this, List.map_id']
  obtain ⟨t', m', e2, hJ⟩ := sFor_inv (it := iSeq (gVar 1)) (g := .nm 3) (body := sSet 2 (g2 dMod (gL dInt (gCons (g2 dAdd (g2 dMul (gSee 2) (gC (.int 7919))) (gSee 3)) gNil)) (gC (.int 2147483497))))
    (J := fun _ t m => m = [] ∧ ∃ k s, t = [.val (.lst (ns.map .int)), .val (.lst (cs.map .int)), .val (.int k), s]) (ds := cs.map .int)
    (t := [.val (.lst (ns.map .int)), .val (.lst (cs.map .int)), .val (.int (10028 + 89 * (cs.length : Int))), .no]) (m := []) (m1 := [])
    (by simp [iSeq, gVar, lift, Out.bind, itemsOf]) ⟨rfl, _, _, rfl⟩ (fun i d hd t m hj => by
      obtain ⟨rfl, k, s, rfl⟩ := hj
      obtain ⟨c, _, rfl⟩ := List.mem_map.mp (List.mem_of_getElem? hd)
      refine ⟨_, [.val (.lst (ns.map .int)), .val (.lst (cs.map .int)), .val (.int ((k * 7919 + c) % 2147483497)), .val (.int c)], [], rfl, .inl ?_, rfl, _, _, rfl⟩
      simp [sSet, g2, gL, gCons, gNil, gSee, gC, ret, lift, Out.bind, ofE, dMul, dAdd, dInt, dMod, P64])
  obtain ⟨rfl, k, s, rfl⟩ := hJ
  refine ⟨k, ?_⟩
  have e0 : b_law_deal [.val (.lst (ns.map .int)), .no, .no, .no] [] = .ret true (.lst [.lst (cs.map .int), .int 0, .int 0, .int k]) [] := by
    unfold b_law_deal
    rw [seq_next (t' := [.val (.lst (ns.map .int)), .own (.lst (cs.map .int)), .no, .no]) (m' := []) (by unfold sNew ofE; rw [e1]; rfl)]
    rw [seq_next (t' := [.val (.lst (ns.map .int)), .val (.lst (cs.map .int)), .no, .no]) (m' := []) (by simp [sFreeze])]
    rw [seq_next (t' := [.val (.lst (ns.map .int)), .val (.lst (cs.map .int)), .val (.int (10028 + 89 * (cs.length : Int))), .no]) (m' := []) (by
      simp [sSet, g2, gL, gCons, gNil, gSee, gC, ret, lift, Out.bind, ofE, dMul, dAdd, dLen, P64])]
    rw [seq_next e2]
    simp [sRetF, ofE, gL, gCons, gNil, gVar, gC, ret, lift, Out.bind, dLst, lim_def]
  exact fnM_ret rfl e0
/-- _law_of -/
theorem of_ok {m : Store} {xs : List D} {d : D} (h : DealOk m) (hx : der1 m d = .lst xs) (hk : d ≠ .obj 0) (h1 : 0 < xs.length) (h2 : xs.length < 1073741824) :
    ∃ x m', f_law_of [.obj 0, d] m = .ok (false, x) m' ∧ x ∈ xs ∧ DealOk m' ∧ Alike m m' := by
  obtain ⟨cs, i, v, k, hd⟩ := h
  obtain ⟨r, m', e, r0, r1, hd', al⟩ := pick_ok hd (n := (xs.length : Int)) (by omega) (by omega)
  have hl : r.toNat < xs.length := by omega
  have hat : atD xs r = some xs[r.toNat] := by
    unfold atD ixOf
    rw [if_pos r0, if_pos r1]
    show xs[r.toNat]? = _
    exact List.getElem?_eq_getElem hl
  refine ⟨xs[r.toNat], m', ?_, List.getElem_mem hl, hd', al⟩
  have hx' : dIx m' d (.int r) = some xs[r.toNat] := by
    cases d with
    | lst ys => cases hx; exact hat
    | obj j =>
      have hj : j ≠ 0 := fun z => hk (by rw [z])
      have q : m'[j]? = some (.lst xs) := by
        rw [al.2 j hj]
        rw [der1_obj] at hx
        split at hx
        · rename_i q; rw [q]; cases hx; rfl
        · cases hx
      show (match m'[j]? with
        | some (.lst xs) => atD xs r
        | _ => none) = _
      rw [q]
      exact hat
    | _ => cases hx
  have e1 : b_law_of [.val (.obj 0), .val d] m = .ret false xs[r.toNat] m' := by
    have hx2 : dLenM m [d] = some (.int xs.length) := by simp only [dLenM, hx]; rfl
    simp [b_law_of, sRet, ofE, gIx, gCall, gCons, gNil, gSee, gVar, gLM, ret, lift, Out.bind, hx2, dfM, out1, e, hx']
  exact fnM_ret rfl e1
theorem of_str {m : Store} {x : Tx} (h : DealOk m) (h1 : 0 < x.length) (h2 : x.length < 1000000) :
    ∃ c m', f_law_of [.obj 0, .str x] m = .ok (false, .str [c]) m' ∧ c ∈ x ∧ DealOk m' ∧ Alike m m' := by
  obtain ⟨cs, i, v, k, hd⟩ := h
  obtain ⟨r, m', e, r0, r1, hd', al⟩ := pick_ok hd (n := (x.length : Int)) (by omega) (by omega)
  have hl : r.toNat < x.length := by omega
  have hlim : x.length ≤ LIM := by rw [lim_def]; omega
  refine ⟨x[r.toNat], m', ?_, List.getElem_mem hl, hd', al⟩
  have hx' : dIx m' (.str x) (.int r) = some (.str [x[r.toNat]]) := by
    show (if x.length ≤ LIM then (atD x r).map (fun c => D.str [c]) else none) = _
    rw [if_pos hlim]
    unfold atD ixOf
    rw [if_pos r0, if_pos r1]
    show (x[r.toNat]?).map _ = _
    rw [List.getElem?_eq_getElem hl]
    rfl
  have hx2 : dLenM m [.str x] = some (.int x.length) := by
    show (if x.length ≤ LIM then some (D.int x.length) else none) = _
    rw [if_pos hlim]
  have e1 : b_law_of [.val (.obj 0), .val (.str x)] m = .ret false (.str [x[r.toNat]]) m' := by
    simp [b_law_of, sRet, ofE, gIx, gCall, gCons, gNil, gSee, gVar, gLM, ret, lift, Out.bind, hx2, dfM, out1, e, hx']
  exact fnM_ret rfl e1
theorem signs_of {cs : Tx} : ∀ {xs : List D}, (∀ d ∈ xs, ∃ c, d = .str [c] ∧ c ∈ cs) → ∃ w : Tx, w.length = xs.length ∧ strsOf xs = some (w.map fun c => [c]) ∧ ∀ c ∈ w, c ∈ cs
  | [], _ => ⟨[], rfl, rfl, fun _ h => absurd h List.not_mem_nil⟩
  | d :: xs, h => by
    obtain ⟨c, rfl, hc⟩ := h d List.mem_cons_self
    obtain ⟨w, h1, h2, h3⟩ := signs_of (xs := xs) fun y hy => h y (List.mem_cons_of_mem _ hy)
    refine ⟨c :: w, by simp [h1], ?_, fun y hy => ?_⟩
    · unfold strsOf
      rw [h2]
      rfl
    · rcases List.mem_cons.mp hy with rfl | hy
      · exact hc
      · exact h3 y hy
theorem join_signs : ∀ w : Tx, joinT [] (w.map fun c => [c]) = w
  | [] => rfl
  | [c] => rfl
  | c :: d :: w => by
    have ih := join_signs (d :: w)
    show [c] ++ ([] ++ joinT [] ((d :: w).map fun c => [c])) = _
    rw [ih]
    rfl
theorem sum_ones : ∀ w : Tx, ((w.map fun c => [c]).map List.length).sum = w.length
  | [] => rfl
  | c :: w => by
    have ih := sum_ones w
    simp at ih ⊢
    omega
theorem ordinary_ok {m : Store} (h : DealOk m) : ∃ w m', f_law_ordinary [.obj 0] m = .ok (false, .str w) m' ∧ w.length ≤ 6 ∧ (∀ c ∈ w, c < 128) ∧ DealOk m' ∧ Alike m m' := by
  obtain ⟨cs, i, v, k, hd⟩ := id h
  obtain ⟨r, m1, e, r0, r1, hd1, al1⟩ := pick_ok hd (n := 7) (by omega) (by omega)
  obtain ⟨xs, m', e2, ⟨hI, hA⟩, hR, hl⟩ := gLc_inv (vs := [1]) (it := iRng1 (gCons (gCall (dfM f_law_pick) (gCons (gVar 0) (gCons (gC (.int 7)) gNil))) gNil)) (g := .nm 1) (e := gCall (dfM f_law_of) (gCons (gVar 0) (gCons (gC (.str [97, 97, 98, 46, 49, 57, 95])) gNil)))
    (t := [.val (.obj 0), .no]) (m := m) (m1 := m1) (ds := rng 0 r.toNat) (I := fun m' => DealOk m' ∧ Alike m m') (R := fun d => ∃ c, d = .str [c] ∧ c ∈ [97, 97, 98, 46, 49, 57, 95]) rfl
    (by
      have hb : -BIG ≤ r ∧ r < BIG := by unfold BIG; omega
      simp [iRng1, gCons, gCall, gVar, gC, gNil, ret, lift, Out.bind, dfM, out1, e, hb]) ⟨hd1, al1⟩
    (fun d hd m2 ⟨h2, a2⟩ => by
      obtain ⟨c, m3, e3, hc, h3, a3⟩ := of_str (x := [97, 97, 98, 46, 49, 57, 95]) h2 (by decide) (by decide)
      refine ⟨_, .str [c], m3, rfl, ?_, ⟨h3, a2.trans a3⟩, c, rfl, hc⟩
      simp [wipeF, gCons, gCall, gVar, gC, gNil, ret, lift, Out.bind, dfM, out1, e3]) (by simp [rng, lim_def]; omega)
  obtain ⟨w, hw1, hw2, hw3⟩ := signs_of hR
  have hl2 : xs.length ≤ 6 := by rw [hl]; simp [rng]; omega
  refine ⟨w, m', ?_, by omega, fun c hc => ?_, hI, hA⟩
  · have hj : dJoin [] [.lst xs] = some (.str w) := by
      simp only [dJoin, hw2]
      rw [sum_ones, join_signs, if_pos (by simp [lim_def]; omega)]
    have e1 : b_law_ordinary [.val (.obj 0), .no] m = .ret false (.str w) m' := by
      simp [b_law_ordinary, sRet, ofE, gMs, gC, gNil, gCons, ret, lift, Out.bind, e2, hj]
    exact fnM_ret rfl e1
  · have := hw3 c hc
    simp at this
    omega
end Pl
set_option Elab.async false
set_option linter.all false
set_option maxRecDepth 100000
set_option maxHeartbeats 4000000
namespace Pl
open TL Wk
theorem cut_take {α : Type} (w : List α) (k : Nat) : cutD w none (some (k : Int)) = w.take k := by
  unfold cutD sIx
  have h : ¬ (k : Int) < 0 := by omega
  simp only [h, if_false, Int.toNat_natCast, List.drop_zero, Nat.sub_zero]
  rw [← List.take_take]
  by_cases hk : k ≤ w.length
  · rw [List.take_of_length_le (l := w) (i := w.length) (Nat.le_refl _)]
  · rw [List.take_of_length_le (l := w) (i := w.length) (Nat.le_refl _)]
theorem cut_drop {α : Type} (w : List α) (k : Nat) : cutD w (some (k : Int)) none = w.drop k := by
  unfold cutD sIx
  have h : ¬ (k : Int) < 0 := by omega
  simp only [h, if_false, Int.toNat_natCast]
  by_cases hk : k ≤ w.length
  · rw [Nat.min_eq_left hk]
    refine List.take_of_length_le ?_
    rw [List.length_drop]
    exact Nat.le_refl _
  · rw [Nat.min_eq_right (by omega), List.drop_length, List.drop_eq_nil_of_le (by omega), List.take_nil]
def insL (w : Tx) (sg : List Tx) (k : Nat) : List Tx := sg.map fun s => w.take k ++ s ++ w.drop k
def repL (w : Tx) (sg : List Tx) (k : Nat) : List Tx := (sg.filter fun s => !decide (s = [w.getD k 0])).map fun s => w.take k ++ s ++ w.drop (k + 1)
def turnL (w : Tx) (sg : List Tx) (k : Nat) : List Tx :=
  insL w sg k ++ (if k < w.length then [w.take k ++ w.drop (k + 1)] ++ repL w sg k else []) ++
    (if k + 1 < w.length ∧ w.getD k 0 ≠ w.getD (k + 1) 0 then [w.take k ++ [w.getD (k + 1) 0] ++ [w.getD k 0] ++ w.drop (k + 2)] else [])
def slipsN (w : Tx) (sg : List Tx) (n : Nat) : List Tx := (List.range n).flatMap (turnL w sg)
theorem turn_len (w : Tx) (sg : List Tx) (k : Nat) : (turnL w sg k).length ≤ 2 * sg.length + 2 := by
  unfold turnL insL repL
  have := List.length_filter_le (fun s => !decide (s = [w.getD k 0])) sg
  simp only [List.length_append, List.length_map]
  split <;> split <;> simp only [List.length_append, List.length_map, List.length_cons, List.length_nil] <;> omega
theorem slips_len (w : Tx) (sg : List Tx) : ∀ n, (slipsN w sg n).length ≤ n * (2 * sg.length + 2)
  | 0 => by simp [slipsN]
  | n + 1 => by
    have ih := slips_len w sg n
    have h := turn_len w sg n
    unfold slipsN at ih ⊢
    rw [List.range_succ, List.flatMap_append, List.length_append]
    simp only [List.flatMap_cons, List.flatMap_nil, List.append_nil]
    rw [Nat.succ_mul]
    omega
theorem slips_succ (w : Tx) (sg : List Tx) (n : Nat) : slipsN w sg (n + 1) = slipsN w sg n ++ turnL w sg n := by
  unfold slipsN
  rw [List.range_succ, List.flatMap_append]
  simp
theorem atD_nat {α : Type} (xs : List α) (k : Nat) (h : k < xs.length) (z : α) : atD xs (k : Int) = some (xs.getD k z) := by
  unfold atD ixOf
  rw [if_pos (by omega), if_pos (by omega)]
  show xs[(k : Int).toNat]? = _
  rw [Int.toNat_natCast, List.getElem?_eq_getElem h, List.getD_eq_getElem?_getD, List.getElem?_eq_getElem h]
  rfl
def strF (f : Tx → Tx) : D → D
  | .str s => .str (f s)
  | d => d
theorem map_strF (f : Tx → Tx) (xs : List Tx) : (xs.map D.str).map (strF f) = (xs.map f).map D.str := by
  rw [List.map_map, List.map_map]
  rfl
def frA (w : Tx) (sg f : List Tx) (s3 : TL.Slot) : Fr := [.val (.str w), .val (.lst (sg.map .str)), .val (.lst (f.map .str)), s3, .no]
theorem app_list (f g : List Tx) (h : f.length + g.length ≤ LIM) : dAdd (.lst (f.map .str)) (.lst (g.map .str)) = some (.lst ((f ++ g).map .str)) := by
  show (if (f.map D.str).length + (g.map D.str).length ≤ LIM then some (D.lst (f.map .str ++ g.map .str)) else none) = _
  rw [List.length_map, List.length_map, if_pos h, List.map_append]
section
variable {w : Tx} {sg : List Tx} {m : Store} {k : Nat} (hw : w.length ≤ 1000) (hs : sg.length ≤ 40) (h1 : ∀ s ∈ sg, s.length ≤ 10)
include hw hs h1
theorem ins_ok (f : List Tx) (hk : k ≤ 1000) : gLc [4] (iSeq (gVar 1)) (.nm 4) tYes (g2 dAdd (g2 dAdd (gSl (gSee 0) oNo (oAt (gSee 3))) (gSee 4)) (gSl (gSee 0) (oAt (gSee 3)) oNo))
    [.val (.str w), .val (.lst (sg.map .str)), .val (.lst (f.map .str)), .val (.int k), .no] m = .ok (.lst ((insL w sg k).map .str)) m := by
  have hl := lim_def
  have := gLc_map (vs := [4]) (it := iSeq (gVar 1)) (g := .nm 4) (e := g2 dAdd (g2 dAdd (gSl (gSee 0) oNo (oAt (gSee 3))) (gSee 4)) (gSl (gSee 0) (oAt (gSee 3)) oNo))
    (t := [.val (.str w), .val (.lst (sg.map .str)), .val (.lst (f.map .str)), .val (.int k), .no]) (m := m) (m1 := m) (ds := sg.map .str) (f := strF fun s => w.take k ++ s ++ w.drop k) rfl
    (by simp [iSeq, gVar, lift, Out.bind, itemsOf]) (fun d hd => by
      obtain ⟨s, hs', rfl⟩ := List.mem_map.mp hd
      have hl1 := h1 s hs'
      refine ⟨_, rfl, ?_⟩
      have a1 : w.length ≤ LIM := by omega
      have a2 : (w.take k).length + s.length ≤ LIM := by rw [List.length_take]; omega
      have a3 : (w.take k ++ s).length + (w.drop k).length ≤ LIM := by rw [List.length_append, List.length_take, List.length_drop]; omega
      simp only [wipeF, g2, gSl, gSee, oNo, oAt, ret, lift, Out.bind, List.set, List.getElem?_cons_zero, List.getElem?_cons_succ, dSl, a1, if_true, cut_take, cut_drop, dAdd, a2, a3, strF]) (by rw [List.length_map]; omega)
  rw [this, map_strF]
  rfl
theorem rep_ok (f : List Tx) (hk : k < w.length) : gLc [4] (iSeq (gVar 1)) (.nm 4) (tB (g2 dNe (gSee 4) (gIx (gSee 0) (gSee 3)))) (g2 dAdd (g2 dAdd (gSl (gSee 0) oNo (oAt (gSee 3))) (gSee 4)) (gSl (gSee 0) (oAt (g2 dAdd (gSee 3) (gC (.int 1)))) oNo))
    [.val (.str w), .val (.lst (sg.map .str)), .val (.lst (f.map .str)), .val (.int k), .no] m = .ok (.lst ((repL w sg k).map .str)) m := by
  have hl := lim_def
  have := gLc_fm (vs := [4]) (it := iSeq (gVar 1)) (g := .nm 4) (c := tB (g2 dNe (gSee 4) (gIx (gSee 0) (gSee 3)))) (e := g2 dAdd (g2 dAdd (gSl (gSee 0) oNo (oAt (gSee 3))) (gSee 4)) (gSl (gSee 0) (oAt (g2 dAdd (gSee 3) (gC (.int 1)))) oNo))
    (t := [.val (.str w), .val (.lst (sg.map .str)), .val (.lst (f.map .str)), .val (.int k), .no]) (m := m) (m1 := m) (ds := sg.map .str) (p := fun d => match d with
      | .str s => !decide (s = [w.getD k 0])
      | _ => true) (f := strF fun s => w.take k ++ s ++ w.drop (k + 1)) rfl
    (by simp [iSeq, gVar, lift, Out.bind, itemsOf]) (fun d hd => by
      obtain ⟨s, hs', rfl⟩ := List.mem_map.mp hd
      have hl1 := h1 s hs'
      have a1 : w.length ≤ LIM := by omega
      refine ⟨_, rfl, ?_, fun _ => ?_⟩
      · simp only [wipeF, tB, g2, gIx, gSee, ret, lift, Out.bind, List.set, List.getElem?_cons_zero, List.getElem?_cons_succ, dIx, a1, if_true, atD_nat w k hk 0, Option.map, dNe, scalD, deq]
      · have e : (k : Int) + 1 = ((k + 1 : Nat) : Int) := by omega
        have a2 : (w.take k).length + s.length ≤ LIM := by rw [List.length_take]; omega
        have a3 : (w.take k ++ s).length + (w.drop (k + 1)).length ≤ LIM := by rw [List.length_append, List.length_take, List.length_drop]; omega
        simp only [wipeF, g2, gSl, gSee, gC, oNo, oAt, ret, lift, Out.bind, List.set, List.getElem?_cons_zero, List.getElem?_cons_succ, dSl, a1, if_true, dAdd, e, cut_take, cut_drop, a2, a3, strF]) (by rw [List.length_map]; omega)
  rw [this, List.filter_map, map_strF]
  rfl
/-- one turn -/
theorem turn_ok (f : List Tx) (hf : f.length ≤ 1000000) (hk : k ≤ w.length) :
    (sSeq (sSet 2 (g2 dAdd (gSee 2) (gLc [4] (iSeq (gVar 1)) (.nm 4) tYes (g2 dAdd (g2 dAdd (gSl (gSee 0) oNo (oAt (gSee 3))) (gSee 4)) (gSl (gSee 0) (oAt (gSee 3)) oNo))))) (sSeq (sIf (tB (g2 dLt (gSee 3) (gL dLen (gCons (gSee 0) gNil)))) (sSeq (sSet 2 (g2 dAdd (gSee 2) (gL dLst (gCons (g2 dAdd (gSl (gSee 0) oNo (oAt (gSee 3))) (gSl (gSee 0) (oAt (g2 dAdd (gSee 3) (gC (.int 1)))) oNo)) gNil)))) (sSet 2 (g2 dAdd (gSee 2) (gLc [4] (iSeq (gVar 1)) (.nm 4) (tB (g2 dNe (gSee 4) (gIx (gSee 0) (gSee 3)))) (g2 dAdd (g2 dAdd (gSl (gSee 0) oNo (oAt (gSee 3))) (gSee 4)) (gSl (gSee 0) (oAt (g2 dAdd (gSee 3) (gC (.int 1)))) oNo)))))) sNil) (sIf (tAnd (tB (g2 dLt (g2 dAdd (gSee 3) (gC (.int 1))) (gL dLen (gCons (gSee 0) gNil)))) (tB (g2 dNe (gIx (gSee 0) (gSee 3)) (gIx (gSee 0) (g2 dAdd (gSee 3) (gC (.int 1))))))) (sSet 2 (g2 dAdd (gSee 2) (gL dLst (gCons (g2 dAdd (g2 dAdd (g2 dAdd (gSl (gSee 0) oNo (oAt (gSee 3))) (gIx (gSee 0) (g2 dAdd (gSee 3) (gC (.int 1))))) (gIx (gSee 0) (gSee 3))) (gSl (gSee 0) (oAt (g2 dAdd (gSee 3) (gC (.int 2)))) oNo)) gNil)))) sNil)))
      (frA w sg f (.val (.int k))) m = .next (frA w sg (f ++ turnL w sg k) (.val (.int k))) m := by
  have hl := lim_def
  have hli : (insL w sg k).length = sg.length := by unfold insL; simp
  have hlr : (repL w sg k).length ≤ sg.length := by
    unfold repL
    rw [List.length_map]
    exact List.length_filter_le _ _
  have a1 : w.length ≤ LIM := by omega
  have e1 : (k : Int) + 1 = ((k + 1 : Nat) : Int) := by omega
  have e2 : (k : Int) + 2 = ((k + 2 : Nat) : Int) := by omega
  -- put in
  rw [seq_next (t' := frA w sg (f ++ insL w sg k) (.val (.int k))) (m' := m) (by
    have q := ins_ok (m := m) (k := k) hw hs h1 f (by omega)
    have q2 := app_list f (insL w sg k) (by omega)
    simp only [sSet, g2, frA, gSee, lift, Out.bind, ofE, List.getElem?_cons_zero, List.getElem?_cons_succ, q, q2, List.set])]
  -- left out, put in for another
  rw [seq_next (t' := frA w sg (f ++ insL w sg k ++ (if k < w.length then [w.take k ++ w.drop (k + 1)] ++ repL w sg k else [])) (.val (.int k))) (m' := m) (by
    by_cases hlt : k < w.length
    · have hlt' : (k : Int) < (w.length : Int) := by omega
      rw [if_pos hlt]
      have q2 := app_list (f ++ insL w sg k) [w.take k ++ w.drop (k + 1)] (by simp; omega)
      have q := rep_ok (m := m) (k := k) hw hs h1 (f ++ insL w sg k ++ [w.take k ++ w.drop (k + 1)]) hlt
      have q3 := app_list (f ++ insL w sg k ++ [w.take k ++ w.drop (k + 1)]) (repL w sg k) (by simp; omega)
      have a2 : (w.take k).length + (w.drop (k + 1)).length ≤ LIM := by rw [List.length_take, List.length_drop]; omega
      have q2' : dAdd (.lst ((f ++ insL w sg k).map .str)) (.lst [.str (w.take k ++ w.drop (k + 1))]) = some (.lst ((f ++ insL w sg k ++ [w.take k ++ w.drop (k + 1)]).map .str)) := q2
      have one : (1 : Nat) ≤ LIM := by omega
      have s1 : sSet 2 (g2 dAdd (gSee 2) (gL dLst (gCons (g2 dAdd (gSl (gSee 0) oNo (oAt (gSee 3))) (gSl (gSee 0) (oAt (g2 dAdd (gSee 3) (gC (.int 1)))) oNo)) gNil))) (frA w sg (f ++ insL w sg k) (.val (.int k))) m =
          .next (frA w sg (f ++ insL w sg k ++ [w.take k ++ w.drop (k + 1)]) (.val (.int k))) m := by
        have d1 : dAdd (.int k) (.int 1) = some (.int ((k + 1 : Nat) : Int)) := by rw [← e1]; rfl
        have d2 : dAdd (.str (w.take k)) (.str (w.drop (k + 1))) = some (.str (w.take k ++ w.drop (k + 1))) := by
          show (if _ then _ else _) = _
          rw [if_pos a2]
        have d3 : dSl (.str w) none (some (k : Int)) = some (.str (w.take k)) := by
          show (if _ then _ else _) = _
          rw [if_pos a1, cut_take]
        have d4 : dSl (.str w) (some ((k + 1 : Nat) : Int)) none = some (.str (w.drop (k + 1))) := by
          show (if _ then _ else _) = _
          rw [if_pos a1, cut_drop]
        have d5 : dLst [.str (w.take k ++ w.drop (k + 1))] = some (.lst [.str (w.take k ++ w.drop (k + 1))]) := by
          exact if_pos one
        simp only [sSet, g2, gL, gCons, gNil, gC, gSl, oNo, oAt, ret, frA, gSee, lift, Out.bind, ofE, List.getElem?_cons_zero, List.getElem?_cons_succ, d1, d2, d3, d4, d5, q2', List.set]
      have s2 : sSet 2 (g2 dAdd (gSee 2) (gLc [4] (iSeq (gVar 1)) (.nm 4) (tB (g2 dNe (gSee 4) (gIx (gSee 0) (gSee 3)))) (g2 dAdd (g2 dAdd (gSl (gSee 0) oNo (oAt (gSee 3))) (gSee 4)) (gSl (gSee 0) (oAt (g2 dAdd (gSee 3) (gC (.int 1)))) oNo)))) (frA w sg (f ++ insL w sg k ++ [w.take k ++ w.drop (k + 1)]) (.val (.int k))) m =
          .next (frA w sg (f ++ insL w sg k ++ [w.take k ++ w.drop (k + 1)] ++ repL w sg k) (.val (.int k))) m := by
        simp only [sSet, g2, frA, gSee, lift, Out.bind, ofE, List.getElem?_cons_zero, List.getElem?_cons_succ, q, q3, List.set]
      have c : tB (g2 dLt (gSee 3) (gL dLen (gCons (gSee 0) gNil))) (frA w sg (f ++ insL w sg k) (.val (.int k))) m = .ok true m := by
        have d1 : dLen [.str w] = some (.int w.length) := by
          show (if _ then _ else _) = _
          rw [if_pos a1]
        have d2 : dLt (.int k) (.int w.length) = some (.bl true) := by
          show some (D.bl (decide ((k : Int) < (w.length : Int)))) = _
          rw [decide_eq_true hlt']
        simp only [tB, g2, gL, gCons, gNil, ret, frA, gSee, lift, Out.bind, List.getElem?_cons_zero, List.getElem?_cons_succ, d1, d2]
      unfold sIf ofB
      rw [c]
      dsimp only
      rw [if_pos rfl, seq_next s1, s2]
      simp only [List.append_assoc]
    · rw [if_neg hlt, List.append_nil]
      have c : tB (g2 dLt (gSee 3) (gL dLen (gCons (gSee 0) gNil))) (frA w sg (f ++ insL w sg k) (.val (.int k))) m = .ok false m := by
        have d1 : dLen [.str w] = some (.int w.length) := by
          show (if _ then _ else _) = _
          rw [if_pos a1]
        have d2 : dLt (.int k) (.int w.length) = some (.bl false) := by
          show some (D.bl (decide ((k : Int) < (w.length : Int)))) = _
          rw [decide_eq_false (by omega)]
        simp only [tB, g2, gL, gCons, gNil, ret, frA, gSee, lift, Out.bind, List.getElem?_cons_zero, List.getElem?_cons_succ, d1, d2]
      unfold sIf ofB
      rw [c]
      dsimp only
      rw [if_neg Bool.false_ne_true]
      rfl)]
  -- exchanged
  have ht : turnL w sg k = insL w sg k ++ (if k < w.length then [w.take k ++ w.drop (k + 1)] ++ repL w sg k else []) ++
    (if k + 1 < w.length ∧ w.getD k 0 ≠ w.getD (k + 1) 0 then [w.take k ++ [w.getD (k + 1) 0] ++ [w.getD k 0] ++ w.drop (k + 2)] else []) := rfl
  generalize hF : f ++ insL w sg k ++ (if k < w.length then [w.take k ++ w.drop (k + 1)] ++ repL w sg k else []) = F
  have hFl : F.length ≤ 1000100 := by
    rw [← hF]
    simp only [List.length_append, hli]
    split
    · simp only [List.length_append, List.length_cons, List.length_nil]; omega
    · simp only [List.length_nil]; omega
  have hFt : f ++ turnL w sg k = F ++ (if k + 1 < w.length ∧ w.getD k 0 ≠ w.getD (k + 1) 0 then [w.take k ++ [w.getD (k + 1) 0] ++ [w.getD k 0] ++ w.drop (k + 2)] else []) := by
    rw [ht, ← hF]
    simp only [List.append_assoc]
  rw [hFt]
  have d0 : dLen [.str w] = some (.int w.length) := if_pos a1
  have d1 : dAdd (.int k) (.int 1) = some (.int ((k + 1 : Nat) : Int)) := by rw [← e1]; rfl
  have d2 : dAdd (.int k) (.int 2) = some (.int ((k + 2 : Nat) : Int)) := by rw [← e2]; rfl
  have one : (1 : Nat) ≤ LIM := by omega
  by_cases hlt : k + 1 < w.length
  · have d3 : dLt (.int ((k + 1 : Nat) : Int)) (.int w.length) = some (.bl true) := by
      show some (D.bl (decide (((k + 1 : Nat) : Int) < (w.length : Int)))) = _
      rw [decide_eq_true (by omega)]
    have i1 : dIx m (.str w) (.int k) = some (.str [w.getD k 0]) := by
      show (if _ then _ else _) = _
      rw [if_pos a1, atD_nat w k (by omega) 0]
      rfl
    have i2 : dIx m (.str w) (.int ((k + 1 : Nat) : Int)) = some (.str [w.getD (k + 1) 0]) := by
      show (if _ then _ else _) = _
      rw [if_pos a1, atD_nat w (k + 1) (by omega) 0]
      rfl
    have c : tAnd (tB (g2 dLt (g2 dAdd (gSee 3) (gC (.int 1))) (gL dLen (gCons (gSee 0) gNil)))) (tB (g2 dNe (gIx (gSee 0) (gSee 3)) (gIx (gSee 0) (g2 dAdd (gSee 3) (gC (.int 1)))))) (frA w sg F (.val (.int k))) m = .ok (decide (w.getD k 0 ≠ w.getD (k + 1) 0)) m := by
      have n1 : dNe (.str [w.getD k 0]) (.str [w.getD (k + 1) 0]) = some (.bl (decide (w.getD k 0 ≠ w.getD (k + 1) 0))) := by
        show some (D.bl (!decide ([w.getD k 0] = [w.getD (k + 1) 0]))) = _
        by_cases q : w.getD k 0 = w.getD (k + 1) 0
        · rw [q]; simp
        · rw [decide_eq_false (fun z => q (List.head_eq_of_cons_eq z)), decide_eq_true q]; rfl
      simp only [tAnd, tB, g2, gIx, gL, gCons, gNil, gC, ret, frA, gSee, lift, Out.bind, List.getElem?_cons_zero, List.getElem?_cons_succ, d0, d1, d3, i1, i2, n1, if_true]
    unfold sIf ofB
    rw [c]
    dsimp only
    by_cases q : w.getD k 0 = w.getD (k + 1) 0
    · rw [decide_eq_false (fun z => z q), if_neg Bool.false_ne_true, if_neg (fun z => z.2 q), List.append_nil]
      rfl
    · rw [decide_eq_true q, if_pos rfl, if_pos ⟨hlt, q⟩]
      have d4 : dSl (.str w) none (some (k : Int)) = some (.str (w.take k)) := by
        show (if _ then _ else _) = _
        rw [if_pos a1, cut_take]
      have d5 : dSl (.str w) (some ((k + 2 : Nat) : Int)) none = some (.str (w.drop (k + 2))) := by
        show (if _ then _ else _) = _
        rw [if_pos a1, cut_drop]
      have b1 : dAdd (.str (w.take k)) (.str [w.getD (k + 1) 0]) = some (.str (w.take k ++ [w.getD (k + 1) 0])) := if_pos (by rw [List.length_take]; simp; omega)
      have b2 : dAdd (.str (w.take k ++ [w.getD (k + 1) 0])) (.str [w.getD k 0]) = some (.str (w.take k ++ [w.getD (k + 1) 0] ++ [w.getD k 0])) := if_pos (by rw [List.length_append, List.length_take]; simp; omega)
      have b3 : dAdd (.str (w.take k ++ [w.getD (k + 1) 0] ++ [w.getD k 0])) (.str (w.drop (k + 2))) = some (.str (w.take k ++ [w.getD (k + 1) 0] ++ [w.getD k 0] ++ w.drop (k + 2))) := if_pos (by
        rw [List.length_append, List.length_append, List.length_take, List.length_drop]; simp; omega)
      have b4 : dLst [.str (w.take k ++ [w.getD (k + 1) 0] ++ [w.getD k 0] ++ w.drop (k + 2))] = some (.lst [.str (w.take k ++ [w.getD (k + 1) 0] ++ [w.getD k 0] ++ w.drop (k + 2))]) := if_pos one
      have b5 : dAdd (.lst (F.map .str)) (.lst [.str (w.take k ++ [w.getD (k + 1) 0] ++ [w.getD k 0] ++ w.drop (k + 2))]) = some (.lst ((F ++ [w.take k ++ [w.getD (k + 1) 0] ++ [w.getD k 0] ++ w.drop (k + 2)]).map .str)) := app_list F [w.take k ++ [w.getD (k + 1) 0] ++ [w.getD k 0] ++ w.drop (k + 2)] (by simp; omega)
      simp only [sSet, g2, gL, gIx, gCons, gNil, gC, gSl, oNo, oAt, ret, frA, gSee, lift, Out.bind, ofE, List.getElem?_cons_zero, List.getElem?_cons_succ, d1, d2, d4, d5, i1, i2, b1, b2, b3, b4, b5, List.set]
  · have d3 : dLt (.int ((k + 1 : Nat) : Int)) (.int w.length) = some (.bl false) := by
      show some (D.bl (decide (((k + 1 : Nat) : Int) < (w.length : Int)))) = _
      rw [decide_eq_false (by omega)]
    have c : tAnd (tB (g2 dLt (g2 dAdd (gSee 3) (gC (.int 1))) (gL dLen (gCons (gSee 0) gNil)))) (tB (g2 dNe (gIx (gSee 0) (gSee 3)) (gIx (gSee 0) (g2 dAdd (gSee 3) (gC (.int 1)))))) (frA w sg F (.val (.int k))) m = .ok false m := by
      simp only [tAnd, tB, g2, gL, gCons, gNil, gC, ret, frA, gSee, lift, Out.bind, List.getElem?_cons_zero, List.getElem?_cons_succ, d0, d1, d3]
      rfl
    unfold sIf ofB
    rw [c]
    dsimp only
    rw [if_neg Bool.false_ne_true, if_neg (fun z => hlt z.1), List.append_nil]
    rfl
end
theorem strsOf_map : ∀ xs : List Tx, strsOf (xs.map .str) = some xs
  | [] => rfl
  | x :: xs => by
    have ih := strsOf_map xs
    show (strsOf (xs.map .str)).map (x :: ·) = _
    rw [ih]
    rfl
theorem rng_get {lo : Int} {n i : Nat} {d : D} (h : (rng lo n)[i]? = some d) : i < n ∧ d = .int (lo + (i : Int)) := rng_at h
/-- _law_all_slips -/
theorem slips_ok {w : Tx} {sg : List Tx} {m : Store} (hw : w.length ≤ 20) (hs : sg.length ≤ 30) (h1 : ∀ s ∈ sg, s.length ≤ 10) :
    f_law_all_slips [.str w, .lst (sg.map .str)] m = .ok (true, .lst ((ordT (slipsN w sg (w.length + 1))).map .str)) m := by
  have hl := lim_def
  have a1 : w.length ≤ LIM := by omega
  have d0 : dLen [.str w] = some (.int w.length) := if_pos a1
  have sl : ∀ n, n ≤ w.length + 1 → (slipsN w sg n).length ≤ 1400 := fun n hn => by
    have := slips_len w sg n
    have h2 : n * (2 * sg.length + 2) ≤ 21 * 62 := Nat.mul_le_mul (by omega) (by omega)
    omega
  obtain ⟨t', m', e2, hJ⟩ := sFor_inv (it := iRng1 (gCons (g2 dAdd (gL dLen (gCons (gSee 0) gNil)) (gC (.int 1))) gNil)) (g := .nm 3) (ds := rng 0 ((w.length : Int) + 1).toNat)
    (body := (sSeq (sSet 2 (g2 dAdd (gSee 2) (gLc [4] (iSeq (gVar 1)) (.nm 4) tYes (g2 dAdd (g2 dAdd (gSl (gSee 0) oNo (oAt (gSee 3))) (gSee 4)) (gSl (gSee 0) (oAt (gSee 3)) oNo))))) (sSeq (sIf (tB (g2 dLt (gSee 3) (gL dLen (gCons (gSee 0) gNil)))) (sSeq (sSet 2 (g2 dAdd (gSee 2) (gL dLst (gCons (g2 dAdd (gSl (gSee 0) oNo (oAt (gSee 3))) (gSl (gSee 0) (oAt (g2 dAdd (gSee 3) (gC (.int 1)))) oNo)) gNil)))) (sSet 2 (g2 dAdd (gSee 2) (gLc [4] (iSeq (gVar 1)) (.nm 4) (tB (g2 dNe (gSee 4) (gIx (gSee 0) (gSee 3)))) (g2 dAdd (g2 dAdd (gSl (gSee 0) oNo (oAt (gSee 3))) (gSee 4)) (gSl (gSee 0) (oAt (g2 dAdd (gSee 3) (gC (.int 1)))) oNo)))))) sNil) (sIf (tAnd (tB (g2 dLt (g2 dAdd (gSee 3) (gC (.int 1))) (gL dLen (gCons (gSee 0) gNil)))) (tB (g2 dNe (gIx (gSee 0) (gSee 3)) (gIx (gSee 0) (g2 dAdd (gSee 3) (gC (.int 1))))))) (sSet 2 (g2 dAdd (gSee 2) (gL dLst (gCons (g2 dAdd (g2 dAdd (g2 dAdd (gSl (gSee 0) oNo (oAt (gSee 3))) (gIx (gSee 0) (g2 dAdd (gSee 3) (gC (.int 1))))) (gIx (gSee 0) (gSee 3))) (gSl (gSee 0) (oAt (g2 dAdd (gSee 3) (gC (.int 2)))) oNo)) gNil)))) sNil))))
    (J := fun i t m' => m' = m ∧ ∃ s3, t = frA w sg (slipsN w sg i) s3) (t := frA w sg [] .no) (m := m) (m1 := m)
    (by
      have d1 : dAdd (.int w.length) (.int 1) = some (.int ((w.length : Int) + 1)) := rfl
      have hb : -BIG ≤ (w.length : Int) + 1 ∧ (w.length : Int) + 1 < BIG := by unfold BIG; omega
      simp only [iRng1, g2, gL, gCons, gNil, gC, ret, frA, gSee, lift, Out.bind, List.getElem?_cons_zero, d0, d1]
      rw [if_pos hb]) ⟨rfl, .no, rfl⟩ (fun i d hd t m1 hj => by
      obtain ⟨rfl, s3, rfl⟩ := hj
      obtain ⟨hi, rfl⟩ := rng_get hd
      have hi' : i ≤ w.length := by omega
      refine ⟨frA w sg (slipsN w sg i) (.val (.int i)), frA w sg (slipsN w sg (i + 1)) (.val (.int i)), m1, by simp [Tg.bind, frA], .inl ?_, rfl, _, rfl⟩
      rw [slips_succ]
      exact turn_ok (by omega) (by omega) h1 _ (by have := sl i (by omega); omega) hi')
  obtain ⟨rfl, s3, rfl⟩ := hJ
  have hlen : (rng 0 ((w.length : Int) + 1).toNat).length = w.length + 1 := by simp [rng]
  rw [hlen] at e2
  have e1 : b_law_all_slips [.val (.str w), .val (.lst (sg.map .str)), .no, .no, .no] m' = .ret true (.lst ((ordT (slipsN w sg (w.length + 1))).map .str)) m' := by
    unfold b_law_all_slips
    rw [seq_next (t' := frA w sg [] .no) (m' := m') (by
      have : dLst [] = some (.lst []) := if_pos (Nat.zero_le _)
      simp only [sSet, gL, gNil, ret, lift, Out.bind, ofE, this, frA, List.set, List.map_nil])]
    rw [seq_next e2]
    have hd : dSortSet (.lst ((slipsN w sg (w.length + 1)).map .str)) = some (.lst ((ordT (slipsN w sg (w.length + 1))).map .str)) := by
      simp only [dSortSet, strsOf_map]
      show (if _ then _ else _) = _
      rw [if_pos (by have := sl (w.length + 1) (Nat.le_refl _); omega)]
    simp only [sRetF, g1, ofE, frA, gSee, lift, Out.bind, List.getElem?_cons_zero, List.getElem?_cons_succ, hd]
  exact fnM_ret rfl e1
end Pl
set_option Elab.async false
set_option linter.all false
set_option maxRecDepth 100000
set_option maxHeartbeats 4000000
namespace Pl
open TL Wk
def lo (s l : Tx) : Bool := (List.range l.length).any fun k => decide (l.take k ++ l.drop (k + 1) = s)
theorem rng0 (n : Nat) : rng 0 n = (List.range n).map fun (i : Nat) => D.int (i : Int) := by
  unfold rng
  simp
theorem blsOf_map {α : Type} (f : α → Bool) : ∀ xs : List α, blsOf (xs.map fun x => D.bl (f x)) = some (xs.map f)
  | [] => rfl
  | x :: xs => by
    have ih := blsOf_map f xs
    show (blsOf (xs.map fun x => D.bl (f x))).map (f x :: ·) = _
    rw [ih]
    rfl
theorem len_ok {w : Tx} (h : w.length ≤ 1000) : dLen [.str w] = some (.int w.length) := if_pos (by rw [lim_def]; omega)
theorem dSl_take {w : Tx} (h : w.length ≤ 1000) (k : Nat) : dSl (.str w) none (some (k : Int)) = some (.str (w.take k)) := by
  show (if _ then _ else _) = _
  rw [if_pos (by rw [lim_def]; omega), cut_take]
theorem dSl_drop {w : Tx} (h : w.length ≤ 1000) (k : Nat) : dSl (.str w) (some (k : Int)) none = some (.str (w.drop k)) := by
  show (if _ then _ else _) = _
  rw [if_pos (by rw [lim_def]; omega), cut_drop]
theorem dIx_str {w : Tx} (h : w.length ≤ 1000) {m : Store} {k : Nat} (hk : k < w.length) : dIx m (.str w) (.int k) = some (.str [w.getD k 0]) := by
  show (if _ then _ else _) = _
  rw [if_pos (by rw [lim_def]; omega), atD_nat w k hk 0]
  rfl
theorem add1 (k : Nat) : dAdd (.int k) (.int 1) = some (.int ((k + 1 : Nat) : Int)) := by
  show some (D.int ((k : Int) + 1)) = _
  congr
theorem add_str {a b : Tx} (h : a.length + b.length ≤ 1000) : dAdd (.str a) (.str b) = some (.str (a ++ b)) := if_pos (by rw [lim_def]; omega)
theorem eq_str (a b : Tx) : dEq (.str a) (.str b) = some (.bl (decide (a = b))) := rfl
theorem ne_str (a b : Tx) : dNe (.str a) (.str b) = some (.bl (!decide (a = b))) := rfl
theorem eq_int (a b : Int) : dEq (.int a) (.int b) = some (.bl (decide (a = b))) := rfl
theorem ne_int (a b : Int) : dNe (.int a) (.int b) = some (.bl (!decide (a = b))) := rfl
theorem left_ok {s l : Tx} {m : Store} (hs : s.length ≤ 100) (hl : l.length ≤ 100) : f_is_left_out [.str s, .str l] m = .ok (false, .bl (lo s l)) m := by
  have e1 : gLc [2] (iRng1 (gCons (gL dLen (gCons (gSee 1) gNil)) gNil)) (.nm 2) tYes (g2 dEq (g2 dAdd (gSl (gSee 1) oNo (oAt (gSee 2))) (gSl (gSee 1) (oAt (g2 dAdd (gSee 2) (gC (.int 1)))) oNo)) (gSee 0)) [.val (.str s), .val (.str l), .no] m =
      .ok (.lst ((List.range l.length).map fun k => D.bl (decide (l.take k ++ l.drop (k + 1) = s)))) m := by
    have := gLc_map (vs := [2]) (it := iRng1 (gCons (gL dLen (gCons (gSee 1) gNil)) gNil)) (g := .nm 2) (e := g2 dEq (g2 dAdd (gSl (gSee 1) oNo (oAt (gSee 2))) (gSl (gSee 1) (oAt (g2 dAdd (gSee 2) (gC (.int 1)))) oNo)) (gSee 0))
      (t := [.val (.str s), .val (.str l), .no]) (m := m) (m1 := m) (ds := rng 0 l.length) (f := fun d => match d with
        | .int i => .bl (decide (l.take i.toNat ++ l.drop (i.toNat + 1) = s))
        | d => d) rfl (by
        have hb : -BIG ≤ (l.length : Int) ∧ (l.length : Int) < BIG := by unfold BIG; omega
        have d0 := len_ok (w := l) (by omega)
        simp only [iRng1, gL, gCons, gNil, ret, gSee, lift, Out.bind, List.getElem?_cons_zero, List.getElem?_cons_succ, d0]
        rw [if_pos hb]
        rfl) (fun d hd => by
        rw [rng0] at hd
        obtain ⟨k, hk, rfl⟩ := List.mem_map.mp hd
        refine ⟨_, rfl, ?_⟩
        have h1 := dSl_take (w := l) (by omega) k
        have h2 := dSl_drop (w := l) (by omega) (k + 1)
        have h3 := add_str (a := l.take k) (b := l.drop (k + 1)) (by rw [List.length_take, List.length_drop]; omega)
        simp only [wipeF, g2, gSl, gSee, gC, oNo, oAt, ret, lift, Out.bind, List.set, List.getElem?_cons_zero, List.getElem?_cons_succ, add1, h1, h2, h3, eq_str, Int.toNat_natCast]) (by simp [rng, lim_def]; omega)
    rw [this, rng0, List.map_map]
    rfl
  have e2 : b_is_left_out [.val (.str s), .val (.str l), .no] m = .ret false (.bl (lo s l)) m := by
    have hd : dAny [.lst ((List.range l.length).map fun k => D.bl (decide (l.take k ++ l.drop (k + 1) = s)))] = some (.bl (lo s l)) := by
      simp only [dAny, blsOf_map]
      unfold lo
      show some (D.bl (List.any (List.map _ _) id)) = _
      rw [List.any_map]
      rfl
    simp only [b_is_left_out, sRet, gL, gCons, gNil, ret, ofE, Out.bind, lift, e1, hd]
  exact fnM_ret rfl e2
def spots (a b : Tx) : List Nat := (List.range a.length).filter fun k => !decide (a.getD k 0 = b.getD k 0)
def two (a b : Tx) : List Nat → Bool
  | [_] => true
  | [x, y] => decide (y = x + 1) && (decide (a.getD x 0 = b.getD y 0) && decide (a.getD y 0 = b.getD x 0))
  | _ => false
theorem two_ne (a b : Tx) : ∀ S : List Nat, S.length ≠ 2 → two a b S = decide (S.length = 1)
  | [], _ => rfl
  | [x], _ => rfl
  | [x, y], h4 => absurd rfl h4
  | x :: y :: z :: r, _ => by simp [two]
def slip (a b : Tx) : Bool :=
  if a.length = b.length + 1 then lo b a
  else if b.length = a.length + 1 then lo a b
  else if a.length ≠ b.length then false
  else two a b (spots a b)
theorem one_eq (x y : Nat) : decide ([x] = [y]) = decide (x = y) := by
  by_cases h : x = y
  · rw [h]; simp
  · rw [decide_eq_false (fun z => h (List.head_eq_of_cons_eq z)), decide_eq_false h]
theorem slip_ok {a b : Tx} {m : Store} (ha : a.length ≤ 100) (hb : b.length ≤ 100) : f_is_slip [.str a, .str b] m = .ok (false, .bl (slip a b)) m := by
  have la := len_ok (w := a) (by omega)
  have lb := len_ok (w := b) (by omega)
  have c1 : tB (g2 dEq (gL dLen (gCons (gSee 0) gNil)) (g2 dAdd (gL dLen (gCons (gSee 1) gNil)) (gC (.int 1)))) [.val (.str a), .val (.str b), .no, .no, .no, .no] m = .ok (decide (a.length = b.length + 1)) m := by
    have : decide ((a.length : Int) = ((b.length + 1 : Nat) : Int)) = decide (a.length = b.length + 1) := decide_eq_decide.mpr (by omega)
    simp only [tB, g2, gL, gCons, gNil, gC, ret, gSee, lift, Out.bind, List.getElem?_cons_zero, List.getElem?_cons_succ, la, lb, add1, eq_int, this]
  have c2 : tB (g2 dEq (gL dLen (gCons (gSee 1) gNil)) (g2 dAdd (gL dLen (gCons (gSee 0) gNil)) (gC (.int 1)))) [.val (.str a), .val (.str b), .no, .no, .no, .no] m = .ok (decide (b.length = a.length + 1)) m := by
    have : decide ((b.length : Int) = ((a.length + 1 : Nat) : Int)) = decide (b.length = a.length + 1) := decide_eq_decide.mpr (by omega)
    simp only [tB, g2, gL, gCons, gNil, gC, ret, gSee, lift, Out.bind, List.getElem?_cons_zero, List.getElem?_cons_succ, la, lb, add1, eq_int, this]
  have c3 : tB (g2 dNe (gL dLen (gCons (gSee 0) gNil)) (gL dLen (gCons (gSee 1) gNil))) [.val (.str a), .val (.str b), .no, .no, .no, .no] m = .ok (!decide (a.length = b.length)) m := by
    have : decide ((a.length : Int) = (b.length : Int)) = decide (a.length = b.length) := decide_eq_decide.mpr (by omega)
    simp only [tB, g2, gL, gCons, gNil, gC, ret, gSee, lift, Out.bind, List.getElem?_cons_zero, List.getElem?_cons_succ, la, lb, ne_int, this]
  suffices key : b_is_slip [.val (.str a), .val (.str b), .no, .no, .no, .no] m = .ret false (.bl (slip a b)) m from fnM_ret rfl key
  unfold b_is_slip slip
  by_cases h1 : a.length = b.length + 1
  · rw [if_pos h1]
    have l := left_ok (m := m) hb ha
    unfold sSeq sIf ofB
    rw [c1, decide_eq_true h1]
    simp only [if_true, sRet, gCall, gCons, gNil, gVar, ret, lift, Out.bind, ofE, List.getElem?_cons_zero, List.getElem?_cons_succ, dfM, out1, l]
  rw [if_neg h1]
  rw [seq_next (t' := [.val (.str a), .val (.str b), .no, .no, .no, .no]) (m' := m) (by unfold sIf ofB; rw [c1, decide_eq_false h1]; rfl)]
  by_cases h2 : b.length = a.length + 1
  · rw [if_pos h2]
    have l := left_ok (m := m) ha hb
    unfold sSeq sIf ofB
    rw [c2, decide_eq_true h2]
    simp only [if_true, sRet, gCall, gCons, gNil, gVar, ret, lift, Out.bind, ofE, List.getElem?_cons_zero, List.getElem?_cons_succ, dfM, out1, l]
  rw [if_neg h2]
  rw [seq_next (t' := [.val (.str a), .val (.str b), .no, .no, .no, .no]) (m' := m) (by unfold sIf ofB; rw [c2, decide_eq_false h2]; rfl)]
  by_cases h3 : a.length = b.length
  rotate_left
  · rw [if_pos h3]
    unfold sSeq sIf ofB
    rw [c3, decide_eq_false h3]
    simp only [Bool.not_false, if_true, sRet, gC, ret, ofE]
  rw [if_neg (fun z => z h3)]
  rw [seq_next (t' := [.val (.str a), .val (.str b), .no, .no, .no, .no]) (m' := m) (by unfold sIf ofB; rw [c3, decide_eq_true h3]; rfl)]
  have e1 : gLc [5] (iRng1 (gCons (gL dLen (gCons (gSee 0) gNil)) gNil)) (.nm 5) (tB (g2 dNe (gIx (gSee 0) (gSee 5)) (gIx (gSee 1) (gSee 5)))) (gVar 5) [.val (.str a), .val (.str b), .no, .no, .no, .no] m = .ok (.lst ((spots a b).map fun k => D.int (k : Nat))) m := by
    have := gLc_fm (vs := [5]) (it := iRng1 (gCons (gL dLen (gCons (gSee 0) gNil)) gNil)) (g := .nm 5) (c := tB (g2 dNe (gIx (gSee 0) (gSee 5)) (gIx (gSee 1) (gSee 5)))) (e := gVar 5)
      (t := [.val (.str a), .val (.str b), .no, .no, .no, .no]) (m := m) (m1 := m) (ds := rng 0 a.length) (p := fun d => match d with
        | .int i => !decide (a.getD i.toNat 0 = b.getD i.toNat 0)
        | _ => true) (f := fun d => d) rfl (by
        have hb' : -BIG ≤ (a.length : Int) ∧ (a.length : Int) < BIG := by unfold BIG; omega
        simp only [iRng1, gL, gCons, gNil, ret, gSee, lift, Out.bind, List.getElem?_cons_zero, List.getElem?_cons_succ, la]
        rw [if_pos hb']
        rfl) (fun d hd => by
        rw [rng0] at hd
        obtain ⟨k, hk, rfl⟩ := List.mem_map.mp hd
        have hk := List.mem_range.mp hk
        have i1 := dIx_str (w := a) (by omega) (m := m) (k := k) hk
        have i2 := dIx_str (w := b) (by omega) (m := m) (k := k) (by omega)
        refine ⟨_, rfl, ?_, fun _ => ?_⟩
        · simp only [wipeF, tB, g2, gIx, gSee, ret, lift, Out.bind, List.set, List.getElem?_cons_zero, List.getElem?_cons_succ, i1, i2, ne_str, one_eq, Int.toNat_natCast]
        · simp only [wipeF, gVar, lift, List.set, List.getElem?_cons_zero, List.getElem?_cons_succ]) (by simp [rng, lim_def]; omega)
    rw [this, rng0, List.filter_map, List.map_id']
    rfl
  rw [seq_next (t' := [.val (.str a), .val (.str b), .own (.lst ((spots a b).map fun k => D.int (k : Nat))), .no, .no, .no]) (m' := m) (by unfold sNew ofE; rw [e1]; rfl)]
  rw [seq_next (t' := [.val (.str a), .val (.str b), .val (.lst ((spots a b).map fun k => D.int (k : Nat))), .no, .no, .no]) (m' := m) (by simp [sFreeze])]
  have ls : dLen [.lst ((spots a b).map fun k => D.int (k : Nat))] = some (.int (spots a b).length) := by
    show some (D.int _) = _
    rw [List.length_map]
  have c4 : tB (g2 dNe (gL dLen (gCons (gSee 2) gNil)) (gC (.int 2))) [.val (.str a), .val (.str b), .val (.lst ((spots a b).map fun k => D.int (k : Nat))), .no, .no, .no] m = .ok (!decide ((spots a b).length = 2)) m := by
    have : decide (((spots a b).length : Int) = 2) = decide ((spots a b).length = 2) := decide_eq_decide.mpr (by omega)
    simp only [tB, g2, gL, gCons, gNil, gC, ret, gSee, lift, Out.bind, List.getElem?_cons_zero, List.getElem?_cons_succ, ls, ne_int, this]
  have hsp : ∀ k ∈ spots a b, k < a.length := fun k hk => List.mem_range.mp (List.mem_filter.mp hk).1
  generalize hS : spots a b = S at ls c4 hsp ⊢
  by_cases h4 : S.length = 2
  · obtain ⟨x, y, rfl⟩ : ∃ x y, S = [x, y] := by
      match S, h4 with
      | [x, y], _ => exact ⟨x, y, rfl⟩
    rw [seq_next (t' := [.val (.str a), .val (.str b), .val (.lst ([x, y].map fun k => D.int (k : Nat))), .no, .no, .no]) (m' := m) (by unfold sIf ofB; rw [c4, decide_eq_true h4]; rfl)]
    rw [seq_next (t' := [.val (.str a), .val (.str b), .val (.lst ([x, y].map fun k => D.int (k : Nat))), .val (.int x), .val (.int y), .no]) (m' := m) (by simp [sUnp, ofE, gSee, lift, itemsOf, setAll])]
    have hx := hsp x (by simp)
    have hy := hsp y (by simp)
    have i1 := dIx_str (w := a) (by omega) (m := m) (k := x) hx
    have i2 := dIx_str (w := b) (by omega) (m := m) (k := y) (by omega)
    have i3 := dIx_str (w := a) (by omega) (m := m) (k := y) hy
    have i4 := dIx_str (w := b) (by omega) (m := m) (k := x) (by omega)
    have q : decide ((y : Int) = ((x + 1 : Nat) : Int)) = decide (y = x + 1) := decide_eq_decide.mpr (by omega)
    simp only [two, sRet, ofE, vAnd, g2, gIx, gC, gSee, ret, lift, Out.bind, List.getElem?_cons_zero, List.getElem?_cons_succ, add1, eq_int, eq_str, one_eq, i1, i2, i3, i4, q]
    cases decide (y = x + 1) <;> cases decide (a.getD x 0 = b.getD y 0) <;> rfl
  · have hne := two_ne a b S h4
    have q : decide ((S.length : Int) = 1) = decide (S.length = 1) := decide_eq_decide.mpr (by omega)
    rw [hne]
    unfold sSeq sIf ofB
    rw [c4, decide_eq_false h4]
    simp only [Bool.not_false, if_true, sRet, ofE, g2, gL, gCons, gNil, gC, gSee, ret, lift, Out.bind, List.getElem?_cons_zero, List.getElem?_cons_succ, ls, eq_int, q]
end Pl
set_option Elab.async false
set_option linter.all false
set_option maxRecDepth 100000
set_option maxHeartbeats 4000000
namespace Pl
open TL Wk
theorem lt_ext {S T : List Nat} (hS : S.Pairwise (· < ·)) (hT : T.Pairwise (· < ·)) (h : ∀ i, i ∈ S ↔ i ∈ T) : S = T :=
  List.Perm.eq_of_pairwise (fun a b _ _ h1 h2 => absurd (Nat.lt_trans h1 h2) (Nat.lt_irrefl _)) hS hT
    ((List.perm_ext_iff_of_nodup (hS.imp fun h => Nat.ne_of_lt h) (hT.imp fun h => Nat.ne_of_lt h)).mpr h)
theorem spots_lt (a b : Tx) : (spots a b).Pairwise (· < ·) := List.Pairwise.filter _ List.pairwise_lt_range
theorem mem_spots {a b : Tx} {i : Nat} : i ∈ spots a b ↔ i < a.length ∧ a.getD i 0 ≠ b.getD i 0 := by
  unfold spots
  rw [List.mem_filter, List.mem_range]
  simp
theorem rep_set (w : Tx) (k : Nat) (c : Nat) (h : k < w.length) : w.take k ++ [c] ++ w.drop (k + 1) = w.set k c := by
  rw [List.set_eq_take_append_cons_drop, if_pos h]
  simp
theorem cut3 (w : Tx) (k : Nat) (h : k + 1 < w.length) : ∃ (p : Tx) (x y : Nat) (q : Tx), w = p ++ x :: y :: q ∧ p.length = k :=
  ⟨w.take k, w[k], w[k + 1], w.drop (k + 2), by
    rw [← List.drop_eq_getElem_cons, ← List.drop_eq_getElem_cons, List.take_append_drop], by rw [List.length_take]; omega⟩
theorem swp_set (w : Tx) (k : Nat) (a b : Nat) (h : k + 1 < w.length) : w.take k ++ [a] ++ [b] ++ w.drop (k + 2) = (w.set (k + 1) b).set k a := by
  obtain ⟨p, x, y, q, rfl, rfl⟩ := cut3 w k h
  have e1 : (p ++ x :: y :: q).take p.length = p := List.take_left
  have e2 : (p ++ x :: y :: q).drop (p.length + 2) = q := by
    rw [List.drop_append]
    simp
  rw [e1, e2, List.set_append_right _ _ (by omega), List.set_append_right _ _ (by omega)]
  simp
theorem getD_set (w : Tx) (k i c : Nat) (h : k < w.length) : (w.set k c).getD i 0 = if i = k then c else w.getD i 0 := by
  rw [List.getD_eq_getElem?_getD, List.getD_eq_getElem?_getD]
  by_cases q : i = k
  · subst q
    rw [if_pos rfl, List.getElem?_set_self h]
    rfl
  · rw [if_neg q, List.getElem?_set_ne (fun z => q z.symm)]
theorem ext_getD {a b : Tx} (hl : a.length = b.length) (h : ∀ i, i < a.length → a.getD i 0 = b.getD i 0) : a = b := by
  refine List.ext_getElem hl fun i h1 h2 => ?_
  have := h i h1
  rw [List.getD_eq_getElem?_getD, List.getD_eq_getElem?_getD, List.getElem?_eq_getElem h1, List.getElem?_eq_getElem h2] at this
  exact this
theorem chars_mem {x : Tx} {i : Nat} (h : i < x.length) : x.getD i 0 ∈ x := by
  rw [List.getD_eq_getElem?_getD, List.getElem?_eq_getElem h]
  exact List.getElem_mem h
theorem ins_len {w : Tx} {sg : List Tx} {k : Nat} (hk : k ≤ w.length) (h1 : ∀ s ∈ sg, s.length = 1) : ∀ x ∈ insL w sg k, x.length = w.length + 1 := fun x hx => by
  obtain ⟨s, hs, rfl⟩ := List.mem_map.mp hx
  have := h1 s hs
  simp only [List.length_append, List.length_take, List.length_drop, this]
  omega
theorem rep_len {w : Tx} {sg : List Tx} {k : Nat} (hk : k < w.length) (h1 : ∀ s ∈ sg, s.length = 1) : ∀ x ∈ repL w sg k, x.length = w.length := fun x hx => by
  obtain ⟨s, hs, rfl⟩ := List.mem_map.mp hx
  have := h1 s (List.mem_filter.mp hs).1
  simp only [List.length_append, List.length_take, List.length_drop, this]
  omega
/-- the signs of the key, each a text -/
def Signs (key : Tx) (sg : List Tx) : Prop := ∀ s, s ∈ sg ↔ ∃ c ∈ key, s = [c]
theorem Signs.one {key : Tx} {sg : List Tx} (h : Signs key sg) : ∀ s ∈ sg, s.length = 1 := fun s hs => by
  obtain ⟨c, _, rfl⟩ := (h s).mp hs
  rfl
theorem mem_turn {w x : Tx} {sg : List Tx} {k : Nat} : x ∈ turnL w sg k ↔ x ∈ insL w sg k ∨ (k < w.length ∧ (x = w.take k ++ w.drop (k + 1) ∨ x ∈ repL w sg k)) ∨
    (k + 1 < w.length ∧ w.getD k 0 ≠ w.getD (k + 1) 0 ∧ x = w.take k ++ [w.getD (k + 1) 0] ++ [w.getD k 0] ++ w.drop (k + 2)) := by
  unfold turnL
  rw [List.mem_append, List.mem_append, or_assoc]
  refine or_congr Iff.rfl (or_congr ?_ ?_)
  · by_cases h : k < w.length
    · rw [if_pos h, List.mem_append, List.mem_singleton]
      exact ⟨fun z => ⟨h, z⟩, fun z => z.2⟩
    · rw [if_neg h]
      exact ⟨fun z => absurd z List.not_mem_nil, fun z => absurd z.1 h⟩
  · by_cases h : k + 1 < w.length ∧ w.getD k 0 ≠ w.getD (k + 1) 0
    · rw [if_pos h, List.mem_singleton]
      exact ⟨fun z => ⟨h.1, h.2, z⟩, fun z => z.2.2⟩
    · rw [if_neg h]
      exact ⟨fun z => absurd z List.not_mem_nil, fun z => absurd ⟨z.1, z.2.1⟩ h⟩
theorem mem_slips {w x : Tx} {sg : List Tx} {n : Nat} : x ∈ slipsN w sg n ↔ ∃ k, k < n ∧ x ∈ turnL w sg k := by
  unfold slipsN
  rw [List.mem_flatMap]
  exact ⟨fun ⟨k, a, b⟩ => ⟨k, List.mem_range.mp a, b⟩, fun ⟨k, a, b⟩ => ⟨k, List.mem_range.mpr a, b⟩⟩
theorem lo_iff {s l : Tx} : lo s l = true ↔ ∃ k, k < l.length ∧ l.take k ++ l.drop (k + 1) = s := by
  unfold lo
  rw [List.any_eq_true]
  exact ⟨fun ⟨k, a, b⟩ => ⟨k, List.mem_range.mp a, of_decide_eq_true b⟩, fun ⟨k, a, b⟩ => ⟨k, List.mem_range.mpr a, decide_eq_true b⟩⟩
theorem del_len {l : Tx} {k : Nat} (h : k < l.length) : (l.take k ++ l.drop (k + 1)).length + 1 = l.length := by
  rw [List.length_append, List.length_take, List.length_drop]; omega
theorem swp_len {w : Tx} {k a b : Nat} (h : k + 1 < w.length) : (w.take k ++ [a] ++ [b] ++ w.drop (k + 2)).length = w.length := by
  rw [swp_set _ _ _ _ h, List.length_set, List.length_set]
/-- THE LAW of slips -/
theorem slip_law {key w : Tx} {sg : List Tx} (hs : Signs key sg) : key ∈ slipsN w sg (w.length + 1) ↔ slip key w = true := by
  have h1 := hs.one
  rw [mem_slips]
  unfold slip
  by_cases hA : key.length = w.length + 1
  · rw [if_pos hA, lo_iff]
    constructor
    · rintro ⟨k, hk, hx⟩
      rcases mem_turn.mp hx with hx | ⟨hl, hx | hx⟩ | ⟨hl, _, hx⟩
      · obtain ⟨s, hs', e⟩ := List.mem_map.mp hx
        obtain ⟨c, hc, rfl⟩ := (hs s).mp hs'
        have e : w.take k ++ [c] ++ w.drop k = key := e
        refine ⟨k, by omega, ?_⟩
        have hlk : (w.take k).length = k := by rw [List.length_take]; omega
        rw [← e, List.append_assoc]
        have a1 : (w.take k ++ ([c] ++ w.drop k)).take k = w.take k := by
          have := List.take_left (l₁ := w.take k) (l₂ := [c] ++ w.drop k)
          rw [hlk] at this; exact this
        have a2 : (w.take k ++ ([c] ++ w.drop k)).drop (k + 1) = w.drop k := by
          rw [List.drop_append, hlk, List.drop_eq_nil_of_le (by omega)]
          simp
        rw [a1, a2, List.take_append_drop]
      · have := del_len hl
        rw [← hx] at this; omega
      · have := rep_len hl h1 key hx; omega
      · have := swp_len (a := w.getD (k + 1) 0) (b := w.getD k 0) hl
        rw [← hx] at this; omega
    · rintro ⟨k, hk, e⟩
      refine ⟨k, by omega, mem_turn.mpr (.inl (List.mem_map.mpr ⟨[key[k]], (hs _).mpr ⟨_, List.getElem_mem hk, rfl⟩, ?_⟩))⟩
      have hlk : (key.take k).length = k := by rw [List.length_take]; omega
      have a1 : w.take k = key.take k := by
        rw [← e]
        have := List.take_left (l₁ := key.take k) (l₂ := key.drop (k + 1))
        rw [hlk] at this; exact this
      have a2 : w.drop k = key.drop (k + 1) := by
        rw [← e, List.drop_append, hlk, List.drop_eq_nil_of_le (by omega)]
        simp
      rw [a1, a2, List.append_assoc]
      show key.take k ++ (key[k] :: key.drop (k + 1)) = key
      rw [← List.drop_eq_getElem_cons, List.take_append_drop]
  rw [if_neg hA]
  by_cases hB : w.length = key.length + 1
  · rw [if_pos hB, lo_iff]
    constructor
    · rintro ⟨k, hk, hx⟩
      rcases mem_turn.mp hx with hx | ⟨hl, hx | hx⟩ | ⟨hl, _, hx⟩
      · have := ins_len (by omega) h1 key hx; omega
      · exact ⟨k, hl, hx.symm⟩
      · have := rep_len hl h1 key hx; omega
      · have := swp_len (a := w.getD (k + 1) 0) (b := w.getD k 0) hl
        rw [← hx] at this; omega
    · rintro ⟨k, hk, e⟩
      exact ⟨k, by omega, mem_turn.mpr (.inr (.inl ⟨hk, .inl e.symm⟩))⟩
  rw [if_neg hB]
  by_cases hC : key.length = w.length
  rotate_left
  · rw [if_pos hC]
    refine ⟨fun ⟨k, hk, hx⟩ => ?_, fun z => nomatch z⟩
    exfalso
    rcases mem_turn.mp hx with hx | ⟨hl, hx | hx⟩ | ⟨hl, _, hx⟩
    · have := ins_len (by omega) h1 key hx; omega
    · have := del_len hl
      rw [← hx] at this; omega
    · have := rep_len hl h1 key hx; omega
    · have := swp_len (a := w.getD (k + 1) 0) (b := w.getD k 0) hl
      rw [← hx] at this; omega
  rw [if_neg (fun z => z hC)]
  constructor
  · rintro ⟨k, hk, hx⟩
    rcases mem_turn.mp hx with hx | ⟨hl, hx | hx⟩ | ⟨hl, hne, hx⟩
    · have := ins_len (by omega) h1 key hx; omega
    · have := del_len hl
      rw [← hx] at this; omega
    · obtain ⟨s, hs', e⟩ := List.mem_map.mp hx
      obtain ⟨hs1, hs2⟩ := List.mem_filter.mp hs'
      obtain ⟨c, hc, rfl⟩ := (hs s).mp hs1
      have e : w.take k ++ [c] ++ w.drop (k + 1) = key := e
      rw [rep_set _ _ _ hl] at e
      have hcn : c ≠ w.getD k 0 := fun z => by rw [z] at hs2; simp at hs2
      have : spots key w = [k] := lt_ext (spots_lt _ _) (List.pairwise_singleton _ _) fun i => by
        rw [mem_spots, List.mem_singleton, ← e, getD_set _ _ _ _ hl, List.length_set]
        constructor
        · rintro ⟨_, q⟩
          by_cases z : i = k
          · exact z
          · rw [if_neg z] at q; exact absurd rfl q
        · rintro rfl
          rw [if_pos rfl]
          exact ⟨hl, hcn⟩
      rw [this]
      rfl
    · rw [swp_set _ _ _ _ hl] at hx
      have g : ∀ i, key.getD i 0 = if i = k then w.getD (k + 1) 0 else if i = k + 1 then w.getD k 0 else w.getD i 0 := fun i => by
        rw [hx, getD_set _ _ _ _ (by rw [List.length_set]; omega), getD_set _ _ _ _ hl]
      have : spots key w = [k, k + 1] := lt_ext (spots_lt _ _) (by simp) fun i => by
        rw [mem_spots, g i]
        constructor
        · rintro ⟨_, q⟩
          by_cases z : i = k
          · rw [z]; simp
          · rw [if_neg z] at q
            by_cases z2 : i = k + 1
            · rw [z2]; simp
            · rw [if_neg z2] at q; exact absurd rfl q
        · intro z
          rcases List.mem_cons.mp z with z | z
          · rw [if_pos z, z]; exact ⟨by omega, fun q => hne q.symm⟩
          · have z := List.mem_singleton.mp z
            rw [if_neg (by omega), if_pos z, z]
            exact ⟨by omega, hne⟩
      rw [this]
      show (decide (k + 1 = k + 1) && (decide (key.getD k 0 = w.getD (k + 1) 0) && decide (key.getD (k + 1) 0 = w.getD k 0))) = true
      rw [g k, g (k + 1), if_pos rfl, if_neg (by omega), if_pos rfl]
      simp
  · intro h
    match hS : spots key w, h with
    | [x], _ => 
      have hx := mem_spots.mp (show x ∈ spots key w by rw [hS]; simp)
      have hxw : x < w.length := by omega
      refine ⟨x, by omega, mem_turn.mpr (.inr (.inl ⟨hxw, .inr ?_⟩))⟩
      refine List.mem_map.mpr ⟨[key.getD x 0], List.mem_filter.mpr ⟨(hs _).mpr ⟨_, chars_mem hx.1, rfl⟩, ?_⟩, ?_⟩
      · rw [one_eq, decide_eq_false hx.2]; rfl
      · rw [rep_set _ _ _ hxw]
        refine ext_getD (by rw [List.length_set]; omega) fun i hi => ?_
        rw [List.length_set] at hi
        rw [getD_set _ _ _ _ hxw]
        by_cases z : i = x
        · rw [if_pos z, z]
        · rw [if_neg z]
          refine Classical.byContradiction fun q => z ?_
          have := mem_spots.mpr ⟨show i < key.length by omega, fun e => q e.symm⟩
          rw [hS] at this
          exact List.mem_singleton.mp this
    | [x, y], h =>
      have h : (decide (y = x + 1) && (decide (key.getD x 0 = w.getD y 0) && decide (key.getD y 0 = w.getD x 0))) = true := h
      simp only [Bool.and_eq_true, decide_eq_true_eq] at h
      obtain ⟨rfl, e1, e2⟩ := h
      have hx := mem_spots.mp (show x ∈ spots key w by rw [hS]; simp)
      have hy := mem_spots.mp (show x + 1 ∈ spots key w by rw [hS]; simp)
      have hxw : x + 1 < w.length := by omega
      refine ⟨x, by omega, mem_turn.mpr (.inr (.inr ⟨hxw, fun z => hx.2 (by rw [e1, z]), ?_⟩))⟩
      rw [swp_set _ _ _ _ hxw]
      refine ext_getD (by rw [List.length_set, List.length_set]; omega) fun i hi => ?_
      rw [getD_set _ _ _ _ (by rw [List.length_set]; omega), getD_set _ _ _ _ hxw]
      by_cases z : i = x
      · rw [if_pos z, z, e1]
      · rw [if_neg z]
        by_cases z2 : i = x + 1
        · rw [if_pos z2, z2, e2]
        · rw [if_neg z2]
          refine Classical.byContradiction fun q => ?_
          have := mem_spots.mpr ⟨hi, q⟩
          rw [hS] at this
          rcases List.mem_cons.mp this with u | u
          · exact z u
          · exact z2 (List.mem_singleton.mp u)
end Pl
set_option Elab.async false
set_option linter.all false
set_option maxRecDepth 100000
set_option maxHeartbeats 4000000
namespace Pl
open TL Wk
theorem mem_ordT {x : Tx} {xs : List Tx} : x ∈ ordT xs ↔ x ∈ xs := by
  unfold ordT
  rw [(srtT_pm _).mem_iff, mem_dedT]
theorem dedT_len : ∀ xs : List Tx, (dedT xs).length ≤ xs.length
  | [] => Nat.le_refl _
  | x :: xs => by
    have ih := dedT_len xs
    unfold dedT
    split
    · rw [List.length_cons]; omega
    · rw [List.length_cons, List.length_cons]; omega
theorem ordT_len (xs : List Tx) : (ordT xs).length ≤ xs.length := by
  unfold ordT
  rw [(srtT_pm _).length_eq]
  exact dedT_len xs
theorem sort_set {xs : List Tx} (h : xs.length ≤ 4000) : dSortSet (.lst (xs.map .str)) = some (.lst ((ordT xs).map .str)) := by
  simp only [dSortSet, strsOf_map]
  show (if _ then _ else _) = _
  rw [if_pos (by omega)]
theorem inD_strs (t : Tx) : ∀ ks : List Tx, inD (.str t) (ks.map .str) = decide (t ∈ ks)
  | [] => by simp [inD]
  | k :: ks => by
    have ih := inD_strs t ks
    unfold inD at ih ⊢
    rw [List.map_cons, List.any_cons, ih]
    show (decide (k = t) || decide (t ∈ ks)) = _
    by_cases h : k = t
    · subst h; simp
    · have h' : ¬ t = k := fun z => h z.symm
      simp [h, h']
theorem flat_strs (ks : List Tx) : (ks.map D.str).all flatD = true := by
  rw [List.all_map]
  exact List.all_eq_true.mpr fun _ _ => rfl
theorem in_strs (t : Tx) (ks : List Tx) : dIn (.str t) (.lst (ks.map .str)) = some (.bl (decide (t ∈ ks))) := by
  unfold dIn
  simp only
  rw [if_pos ⟨rfl, flat_strs ks⟩, inD_strs]
def nr (ks : List Tx) (t : Tx) : List Tx := ordT (ks.filter fun k => slip k t)
theorem near_road {ks : List Tx} {t : Tx} {m : Store} {d : D} (hd : itemsOf d = some (ks.map .str)) (h1 : ks.length ≤ 100) (h2 : ∀ k ∈ ks, k.length ≤ 100) (h3 : t.length ≤ 100) :
    f_near [d, .str t] m = .ok (true, .lst ((nr ks t).map .str)) m := by
  have e1 : gLc [2] (iSeq (gVar 0)) (.nm 2) (tB (gCall (dfM f_is_slip) (gCons (gVar 2) (gCons (gVar 1) gNil)))) (gVar 2) [.val d, .val (.str t), .no] m = .ok (.lst ((ks.filter fun k => slip k t).map .str)) m := by
    have := gLc_fm (vs := [2]) (it := iSeq (gVar 0)) (g := .nm 2) (c := tB (gCall (dfM f_is_slip) (gCons (gVar 2) (gCons (gVar 1) gNil)))) (e := gVar 2) (t := [.val d, .val (.str t), .no]) (m := m) (m1 := m) (ds := ks.map .str)
      (p := fun d => match d with
        | .str k => slip k t
        | _ => true) (f := fun d => d) rfl (by simp only [iSeq, gVar, lift, Out.bind, List.getElem?_cons_zero, hd]) (fun x hx => by
        obtain ⟨k, hk, rfl⟩ := List.mem_map.mp hx
        have s := slip_ok (m := m) (h2 k hk) h3
        refine ⟨_, rfl, ?_, fun _ => ?_⟩
        · simp only [wipeF, tB, gCall, gCons, gNil, gVar, ret, lift, Out.bind, List.set, List.getElem?_cons_zero, List.getElem?_cons_succ, dfM, out1, s]
        · simp only [wipeF, gVar, lift, List.set, List.getElem?_cons_zero, List.getElem?_cons_succ]) (by rw [List.length_map, lim_def]; omega)
    rw [this, List.filter_map, List.map_id']
    rfl
  have e2 : b_near [.val d, .val (.str t), .no] m = .ret true (.lst ((nr ks t).map .str)) m := by
    have := sort_set (xs := ks.filter fun k => slip k t) (by have := List.length_filter_le (fun k => slip k t) ks; omega)
    simp only [b_near, sRetF, g1, ofE, Out.bind, lift, e1, this]
    rfl
  exact fnM_ret rfl e2
def sureD (ks : List Tx) (t : Tx) : D := if t ∈ ks then .str t else match nr ks t with
  | [x] => .str x
  | _ => .non
theorem surely_ok {ks : List Tx} {t : Tx} {m : Store} (h1 : ks.length ≤ 100) (h2 : ∀ k ∈ ks, k.length ≤ 100) (h3 : t.length ≤ 100) :
    f_surely [.lst (ks.map .str), .str t] m = .ok (false, sureD ks t) m := by
  have n := near_road (d := .lst (ks.map .str)) (m := m) rfl h1 h2 h3
  suffices key : b_surely [.val (.lst (ks.map .str)), .val (.str t), .no] m = .ret false (sureD ks t) m from fnM_ret rfl key
  have c : tB (g2 dIn (gSee 1) (gSee 0)) [.val (.lst (ks.map .str)), .val (.str t), .no] m = .ok (decide (t ∈ ks)) m := by
    simp only [tB, g2, gSee, lift, Out.bind, List.getElem?_cons_zero, List.getElem?_cons_succ, in_strs]
  unfold b_surely sureD
  by_cases h : t ∈ ks
  · rw [if_pos h]
    unfold sSeq sIf ofB
    rw [c, decide_eq_true h]
    simp only [if_true, sRet, gVar, lift, ofE, List.getElem?_cons_zero, List.getElem?_cons_succ]
  rw [if_neg h]
  rw [seq_next (t' := [.val (.lst (ks.map .str)), .val (.str t), .no]) (m' := m) (by unfold sIf ofB; rw [c, decide_eq_false h]; rfl)]
  rw [seq_next (t' := [.val (.lst (ks.map .str)), .val (.str t), .val (.lst ((nr ks t).map .str))]) (m' := m) (by
    simp only [sSet, gCall, gCons, gNil, gVar, ret, lift, ofE, Out.bind, List.getElem?_cons_zero, List.getElem?_cons_succ, dfM, out1, n, List.set])]
  generalize nr ks t = N
  have l : dLen [.lst (N.map .str)] = some (.int N.length) := by
    show some (D.int _) = _
    rw [List.length_map]
  have q : decide ((N.length : Int) = 1) = decide (N.length = 1) := decide_eq_decide.mpr (by omega)
  have c2 : tB (g2 dEq (gL dLen (gCons (gSee 2) gNil)) (gC (.int 1))) [.val (.lst (ks.map .str)), .val (.str t), .val (.lst (N.map .str))] m = .ok (decide (N.length = 1)) m := by
    simp only [tB, g2, gL, gCons, gNil, gC, gSee, ret, lift, Out.bind, List.getElem?_cons_zero, List.getElem?_cons_succ, l, eq_int, q]
  unfold sRet gIf ofE
  rw [c2]
  match N with
  | [] => rfl
  | [x] => rfl
  | x :: y :: r =>
    have : decide ((x :: y :: r).length = 1) = false := decide_eq_false (by simp)
    rw [this]
    rfl
mutual
theorem deq_refl : ∀ {d : D}, okD d = true → deq d d = true
  | .non, _ => by unfold deq; rfl
  | .bl b, _ => by simp [deq]
  | .int i, _ => by simp [deq]
  | .str x, _ => by simp [deq]
  | .lst xs, h => by unfold okD at h; unfold deq; exact deqs_refl h
  | .tup xs, h => by unfold okD at h; unfold deq; exact deqs_refl h
  | .dct _, h => by unfold okD at h; cases h
  | .ins _ _, h => by unfold okD at h; cases h
  | .obj _, h => by unfold okD at h; cases h
theorem deqs_refl : ∀ {d : List D}, okDs d = true → deqs d d = true
  | [], _ => by unfold deqs; rfl
  | x :: xs, h => by
    unfold okDs at h
    have h := Bool.and_eq_true_iff.mp h
    unfold deqs
    rw [deq_refl h.1, deqs_refl h.2]; rfl
end
/-- _law_same of two that are the same -/
theorem same_ok {m : Store} {a b A : D} (ha : der 2 m a = A) (hb : der 2 m b = A) (h : showOk A = true) (sa : isSeq (der1 m a) = true) (sb : isSeq (der1 m b) = true) (ns : scalD a b = false) : f_law_same [a, b] m = .ok (false, .bl true) m := by
  have hf := (show_ok h).1
  have hok : okD A = true := by unfold fine at hf; exact (Bool.and_eq_true_iff.mp hf).1
  have e1 : dEqM m a b = some (.bl true) := by
    unfold dEqM
    rw [ns, if_neg Bool.false_ne_true, ha, hb, if_pos ⟨hf, hf⟩, deq_refl hok]
  have r1 : dReprM m [a] = some (.str (reprT A)) := by rw [dReprM_ok sa (by rw [ha]; exact h), ha]
  have r2 : dReprM m [b] = some (.str (reprT A)) := by rw [dReprM_ok sb (by rw [hb]; exact h), hb]
  have e2 : dEqM m (.str (reprT A)) (.str (reprT A)) = some (.bl true) := by
    show some (D.bl (decide _)) = _
    rw [decide_eq_true rfl]
  have key : b_law_same [.val a, .val b] m = .ret false (.bl true) m := by
    simp only [b_law_same, sRet, ofE, vAnd, g2M, gLM, gCons, gNil, gSee, ret, lift, Out.bind, List.getElem?_cons_zero, List.getElem?_cons_succ, e1, r1, r2, e2]
  exact fnM_ret rfl key
end Pl
set_option Elab.async false
set_option linter.all false
set_option maxRecDepth 100000
set_option maxHeartbeats 4000000
namespace Pl
open TL Wk
def good (n : Nat) (x : Tx) : Prop := x.length ≤ n ∧ ∀ c ∈ x, c < 128
theorem good.mono {n k : Nat} {x : Tx} (h : good n x) (hk : n ≤ k) : good k x := ⟨Nat.le_trans h.1 hk, h.2⟩
theorem getD_lt {w : Tx} {n k : Nat} (h : good n w) : w.getD k 0 < 128 := by
  rw [List.getD_eq_getElem?_getD]
  by_cases hk : k < w.length
  · rw [List.getElem?_eq_getElem hk]; exact h.2 _ (List.getElem_mem hk)
  · rw [List.getElem?_eq_none (Nat.le_of_not_lt hk)]; decide
theorem slips_good {n : Nat} {y x : Tx} {sg : List Tx} (h : good n y) (hs : ∀ s ∈ sg, good 1 s) (hx : x ∈ slipsN y sg (y.length + 1)) : good (n + 1) x := by
  obtain ⟨k, hk, hx⟩ := mem_slips.mp hx
  have tk : ∀ c ∈ y.take k, c < 128 := fun c hc => h.2 c (List.mem_of_mem_take hc)
  have dk : ∀ j, ∀ c ∈ y.drop j, c < 128 := fun j c hc => h.2 c (List.mem_of_mem_drop hc)
  have hl := h.1
  rcases mem_turn.mp hx with hx | ⟨hl2, hx | hx⟩ | ⟨hl2, _, hx⟩
  · obtain ⟨s, hs', rfl⟩ := List.mem_map.mp hx
    obtain ⟨a, b⟩ := hs s hs'
    refine ⟨by simp only [List.length_append, List.length_take, List.length_drop]; omega, fun c hc => ?_⟩
    rcases List.mem_append.mp hc with hc | hc
    · rcases List.mem_append.mp hc with hc | hc
      · exact tk c hc
      · exact b c hc
    · exact dk _ c hc
  · rw [hx]
    refine ⟨by simp only [List.length_append, List.length_take, List.length_drop]; omega, fun c hc => ?_⟩
    rcases List.mem_append.mp hc with hc | hc
    · exact tk c hc
    · exact dk _ c hc
  · obtain ⟨s, hs', rfl⟩ := List.mem_map.mp hx
    obtain ⟨a, b⟩ := hs s (List.mem_filter.mp hs').1
    refine ⟨by simp only [List.length_append, List.length_take, List.length_drop]; omega, fun c hc => ?_⟩
    rcases List.mem_append.mp hc with hc | hc
    · rcases List.mem_append.mp hc with hc | hc
      · exact tk c hc
      · exact b c hc
    · exact dk _ c hc
  · rw [hx]
    refine ⟨by simp only [List.length_append, List.length_take, List.length_drop, List.length_cons, List.length_nil]; omega, fun c hc => ?_⟩
    rcases List.mem_append.mp hc with hc | hc
    · rcases List.mem_append.mp hc with hc | hc
      · rcases List.mem_append.mp hc with hc | hc
        · exact tk c hc
        · rw [List.mem_singleton.mp hc]; exact getD_lt h
      · rw [List.mem_singleton.mp hc]; exact getD_lt h
    · exact dk _ c hc
/-- _law_of over texts -/
theorem of_texts {m : Store} {xs : List Tx} {d : D} (h : DealOk m) (hx : der1 m d = .lst (xs.map .str)) (hk : d ≠ .obj 0) (h1 : 0 < xs.length) (h2 : xs.length < 1000000) :
    ∃ x m', f_law_of [.obj 0, d] m = .ok (false, .str x) m' ∧ x ∈ xs ∧ DealOk m' ∧ Alike m m' := by
  obtain ⟨y, m', e, hy, hd, al⟩ := of_ok h hx hk (by rw [List.length_map]; exact h1) (by rw [List.length_map]; omega)
  obtain ⟨x, hx', rfl⟩ := List.mem_map.mp hy
  exact ⟨x, m', e, hx', hd, al⟩
theorem lst_strs {xs : List Tx} (h : xs.length ≤ 1000000) : dLst (xs.map .str) = some (.lst (xs.map .str)) := if_pos (by rw [List.length_map, lim_def]; omega)
def fr (s0 s2 s3 s4 s5 s6 s7 s8 s9 s10 : TL.Slot) : Fr := [s0, .val (.obj 0), s2, s3, s4, s5, s6, s7, s8, s9, s10, .no]
section
variable {s0 s2 s5 s6 s7 s8 s9 s10 : TL.Slot}
theorem DealOk.lt {m : Store} (h : DealOk m) : 0 < m.length := by
  obtain ⟨cs, i, v, k, hd⟩ := h
  exact (List.getElem?_eq_some_iff.mp hd.at0).1
theorem DealOk.app {m : Store} (h : DealOk m) (d : D) : DealOk (m ++ [d]) := by
  have hl := h.lt
  obtain ⟨cs, i, v, k, hd⟩ := h
  exact ⟨cs, i, v, k, by rw [List.getElem?_append_left hl]; exact hd.at0, hd.ge⟩
theorem DealOk.set {m : Store} (h : DealOk m) {k : Nat} (hk : k ≠ 0) (d : D) : DealOk (m.set k d) := by
  obtain ⟨cs, i, v, j, hd⟩ := h
  exact ⟨cs, i, v, j, by rw [List.getElem?_set_ne hk]; exact hd.at0, hd.ge⟩
/-- one key more -/
theorem grow_ok {m : Store} {w : Tx} {k0 : Nat} {cur : List Tx} {n : Nat} (h : DealOk m) (hk : k0 ≠ 0) (hc : m[k0]? = some (.lst (cur.map .str))) (h1 : 0 < cur.length) (h2 : cur.length ≤ 10) (hg : ∀ x ∈ cur, good n x) (hw : good n w) (hn : n ≤ 19) :
    ∃ z m', sCapp (gSee 4) (gCall (dfM f_law_of) (gCons (gVar 1) (gCons (g2 dAdd (gCall (dfM f_law_all_slips) (gCons (gCall (dfM f_law_of) (gCons (gVar 1) (gCons (gVar 4) gNil))) (gCons (gL dLst (gCons (gC (.str [97])) (gCons (gC (.str [57])) gNil))) gNil))) (gL dLst (gCons (gVar 3) gNil))) gNil)))
      (fr s0 s2 (.val (.str w)) (.val (.obj k0)) s5 s6 s7 s8 s9 s10) m = .next (fr s0 s2 (.val (.str w)) (.val (.obj k0)) s5 s6 s7 s8 s9 s10) m' ∧ DealOk m' ∧ m'[k0]? = some (.lst ((cur ++ [z]).map .str)) ∧ good (n + 1) z := by
  have hd1 : der1 m (.obj k0) = .lst (cur.map .str) := by rw [der1_obj, hc]
  obtain ⟨y, m1, e1, hy, d1, a1⟩ := of_texts h hd1 (fun z => hk (by cases z; rfl)) h1 (by omega)
  have gy := hg y hy
  have sl := slips_ok (w := y) (sg := [[97], [57]]) (m := m1) (by have := gy.1; omega) (by decide) (by decide)
  let big := ordT (slipsN y [[97], [57]] (y.length + 1)) ++ [w]
  have hbl : big.length ≤ 1000 := by
    have q1 := ordT_len (slipsN y [[97], [57]] (y.length + 1))
    have q2 := slips_len y [[97], [57]] (y.length + 1)
    have q3 : (y.length + 1) * (2 * 2 + 2) ≤ 20 * 6 := Nat.mul_le_mul (by have := gy.1; omega) (Nat.le_refl _)
    show (_ ++ [w]).length ≤ _
    rw [List.length_append]
    simp only [List.length_cons, List.length_nil] at q2 ⊢
    omega
  obtain ⟨z, m2, e2, hz, d2, a2⟩ := of_texts (m := m1) (xs := big) (d := .lst (big.map .str)) d1 rfl (fun z => by cases z) (by simp [big]) (by omega)
  have hc2 : m2[k0]? = some (.lst (cur.map .str)) := by rw [a2.2 k0 hk, a1.2 k0 hk]; exact hc
  have hkl : k0 < m2.length := (List.getElem?_eq_some_iff.mp hc2).1
  refine ⟨z, m2.set k0 (.lst ((cur ++ [z]).map .str)), ?_, d2.set hk _, by rw [List.getElem?_set_self hkl], ?_⟩
  · have g1 : dLst [.str [97], .str [57]] = some (.lst ([[97], [57]].map .str)) := lst_strs (xs := [[97], [57]]) (by decide)
    have g2' : dLst [.str w] = some (.lst ([w].map .str)) := lst_strs (xs := [w]) (by simp)
    have g3 : dAdd (.lst ((ordT (slipsN y [[97], [57]] (y.length + 1))).map .str)) (.lst ([w].map .str)) = some (.lst (big.map .str)) := app_list _ _ (by
      rw [lim_def]
      have : big.length = (ordT (slipsN y [[97], [57]] (y.length + 1))).length + 1 := by simp [big]
      simp only [List.length_cons, List.length_nil]
      omega)
    have ev : gCall (dfM f_law_of) (gCons (gVar 1) (gCons (g2 dAdd (gCall (dfM f_law_all_slips) (gCons (gCall (dfM f_law_of) (gCons (gVar 1) (gCons (gVar 4) gNil))) (gCons (gL dLst (gCons (gC (.str [97])) (gCons (gC (.str [57])) gNil))) gNil))) (gL dLst (gCons (gVar 3) gNil))) gNil))
      (fr s0 s2 (.val (.str w)) (.val (.obj k0)) s5 s6 s7 s8 s9 s10) m = .ok (.str z) m2 := by
      simp only [gCall, gCons, gNil, gVar, g2, gL, gC, ret, lift, Out.bind, fr, List.getElem?_cons_zero, List.getElem?_cons_succ, dfM, out1, e1, g1, sl, g2', g3, e2]
    have hlim : (cur.map D.str).length < LIM := by rw [List.length_map, lim_def]; omega
    have hs : gSee 4 (fr s0 s2 (.val (.str w)) (.val (.obj k0)) s5 s6 s7 s8 s9 s10) m = .ok (.obj k0) m := rfl
    unfold sCapp ofE
    rw [hs]
    dsimp only
    rw [hc]
    dsimp only
    rw [ev]
    dsimp only
    rw [hc2]
    dsimp only
    rw [if_pos hlim, List.map_append]
    rfl
  · rcases List.mem_append.mp hz with hz | hz
    · refine slips_good gy (fun s hs => ?_) (mem_ordT.mp hz)
      rcases List.mem_cons.mp hs with rfl | hs
      · exact ⟨by decide, by decide⟩
      · rw [List.mem_singleton.mp hs]; exact ⟨by decide, by decide⟩
    · rw [List.mem_singleton.mp hz]; exact hw.mono (by omega)
end
end Pl
set_option Elab.async false
set_option linter.all false
set_option maxRecDepth 100000
set_option maxHeartbeats 4000000
namespace Pl
open TL Wk
theorem g1_ok {f : D → Option D} {a : GE} {t : Fr} {m m' : Store} {x d : D} (h : a t m = .ok x m') (e : f x = some d) : g1 f a t m = .ok d m' := by
  unfold g1
  rw [h]
  show lift (f x) m' = _
  rw [e]
  rfl
theorem sSet_ok {i : Nat} {e : GE} {t : Fr} {m m' : Store} {d : D} (h : e t m = .ok d m') : sSet i e t m = .next (t.set i (.val d)) m' := by
  unfold sSet ofE
  rw [h]
theorem text_ok {n : Nat} {x : Tx} (h : good n x) : textOk x = true := by
  unfold textOk
  exact List.all_eq_true.mpr fun c hc => decide_eq_true (by have := h.2 c hc; omega)
theorem shorts {n : Nat} : ∀ {xs : List Tx}, (∀ x ∈ xs, good n x) → shortDs (xs.map .str) = true
  | [], _ => rfl
  | x :: xs, h => by
    show (textOk x && shortDs (xs.map .str)) = true
    rw [text_ok (h x List.mem_cons_self), shorts fun y hy => h y (List.mem_cons_of_mem _ hy)]
    rfl
theorem wts {n : Nat} : ∀ {xs : List Tx}, (∀ x ∈ xs, good n x) → wtDs (xs.map .str) ≤ xs.length * (n + 1)
  | [], _ => Nat.zero_le _
  | x :: xs, h => by
    have ih := wts fun y hy => h y (List.mem_cons_of_mem _ hy)
    have hx := (h x List.mem_cons_self).1
    show x.length + 1 + wtDs (xs.map .str) ≤ (xs.length + 1) * (n + 1)
    rw [Nat.succ_mul]
    omega
theorem deps_strs : ∀ xs : List Tx, deps (xs.map .str) = 0
  | [] => rfl
  | x :: xs => by
    show max 0 (deps (xs.map .str)) = 0
    rw [deps_strs xs]
    rfl
theorem show_texts {xs : List Tx} {n : Nat} (h : ∀ x ∈ xs, good n x) (hl : xs.length ≤ 100) (hn : n ≤ 100) : showOk (.lst (xs.map .str)) = true := by
  have a := shorts h
  have b := wts h
  have c := deps_strs xs
  have d : xs.length * (n + 1) ≤ 100 * 101 := Nat.mul_le_mul hl (by omega)
  unfold showOk
  have e1 : shortD (.lst (xs.map .str)) = true := by unfold shortD; exact a
  have e2 : wtD (.lst (xs.map .str)) = wtDs (xs.map .str) := by unfold wtD; rfl
  have e3 : dep (.lst (xs.map .str)) = 1 := by unfold dep; rw [c]
  rw [e1, e2, e3, decide_eq_true (show wtDs (xs.map .str) ≤ 2 ^ 20 by omega)]
  rfl
theorem sure_cases (ks : List Tx) (t : Tx) : sureD ks t = .non ∨ ∃ x, sureD ks t = .str x ∧ (x = t ∨ x ∈ nr ks t) := by
  unfold sureD
  by_cases h : t ∈ ks
  · rw [if_pos h]; exact .inr ⟨t, rfl, .inl rfl⟩
  · rw [if_neg h]
    match nr ks t with
    | [] => exact .inl rfl
    | [x] => exact .inr ⟨x, rfl, .inr (by simp)⟩
    | x :: y :: r => exact .inl rfl
theorem show_told {N : List Tx} {s : D} {n : Nat} (h : ∀ x ∈ N, good n x) (hl : N.length ≤ 100) (hn : n ≤ 100) (hs : s = .non ∨ ∃ x, s = .str x ∧ good n x) : showOk (.lst [.lst (N.map .str), .lst (N.map .str), s, s]) = true := by
  have a := shorts h
  have b := wts h
  have c := deps_strs N
  have d : N.length * (n + 1) ≤ 100 * 101 := Nat.mul_le_mul hl (by omega)
  have e0 : shortD (.lst (N.map .str)) = true := by unfold shortD; exact a
  have f0 : wtD (.lst (N.map .str)) = wtDs (N.map .str) := by unfold wtD; rfl
  have g0 : dep (.lst (N.map .str)) = 1 := by unfold dep; rw [c]
  have hs' : shortD s = true ∧ wtD s ≤ 100 ∧ dep s = 0 := by
    rcases hs with rfl | ⟨x, rfl, gx⟩
    · exact ⟨rfl, by decide, rfl⟩
    · exact ⟨text_ok gx, Nat.le_trans gx.1 hn, rfl⟩
  obtain ⟨s1, s2, s3⟩ := hs'
  unfold showOk
  have e1 : shortD (.lst [.lst (N.map .str), .lst (N.map .str), s, s]) = true := by
    simp only [shortD, shortDs, a, s1, Bool.and_self]
  have e2 : wtD (.lst [.lst (N.map .str), .lst (N.map .str), s, s]) ≤ 2 ^ 20 := by
    simp only [wtD, wtDs]
    omega
  have e3 : dep (.lst [.lst (N.map .str), .lst (N.map .str), s, s]) ≤ 60 := by
    simp only [dep, deps, c, s3]
    decide
  rw [e1, decide_eq_true e2, decide_eq_true e3]
  rfl
theorem noObjs_strs : ∀ xs : List Tx, noObjs (xs.map .str) = true
  | [] => rfl
  | x :: xs => by
    show (true && noObjs (xs.map .str)) = true
    rw [noObjs_strs xs]
    rfl
section
variable {s0 s2 s3 s4 s5 s6 s7 s8 s9 s10 : TL.Slot}
theorem cut_keys {m : Store} {k0 : Nat} {cur : List Tx} (h : DealOk m) (hk : k0 ≠ 0) (hc : m[k0]? = some (.lst (cur.map .str))) :
    ∃ (ks : List Tx) (m' : Store), sSet 4 (gSlM (gSee 4) (oAt (gCall (dfM f_law_pick) (gCons (gVar 1) (gCons (gC (.int 2)) gNil)))) oNo) (fr s0 s2 s3 (.val (.obj k0)) s5 s6 s7 s8 s9 s10) m =
      .next (fr s0 s2 s3 (.val (.lst (ks.map .str))) s5 s6 s7 s8 s9 s10) m' ∧ DealOk m' ∧ (∀ x ∈ ks, x ∈ cur) ∧ ks.length ≤ cur.length := by
  obtain ⟨cs, i, v, k, hd⟩ := h
  obtain ⟨r, m1, e, r0, r1, d1, a1⟩ := pick_ok hd (n := 2) (by omega) (by omega)
  have hc1 : m1[k0]? = some (.lst (cur.map .str)) := by rw [a1.2 k0 hk]; exact hc
  refine ⟨cutD cur (some r) none, m1, ?_, d1, fun x hx => ?_, cutD_le _ _ _⟩
  · have q : dSl (der1 m1 (.obj k0)) (some r) none = some (.lst ((cutD cur (some r) none).map .str)) := by
      rw [der1_obj, hc1]
      show some (D.lst (cutD (cur.map D.str) (some r) none)) = _
      rw [cutD_map]
    simp only [sSet, gSlM, gSee, oAt, oNo, gCall, gCons, gNil, gVar, gC, ret, lift, Out.bind, ofE, fr, List.getElem?_cons_zero, List.getElem?_cons_succ, dfM, out1, e, q, List.set]
  · unfold cutD at hx
    exact List.mem_of_mem_drop (List.mem_of_mem_take hx)
theorem text_in {m : Store} {w : Tx} {ks : List Tx} (h : DealOk m) (hw : good 6 w) (hg : ∀ x ∈ ks, good 11 x) (hl : ks.length ≤ 20) :
    ∃ (t : Tx) (m' : Store), sSet 6 (gCall (dfM f_law_of) (gCons (gVar 1) (gCons (g2 dAdd (g2 dAdd (gL dLst (gCons (gVar 3) gNil)) (gSee 4)) (gCall (dfM f_law_all_slips) (gCons (gVar 3) (gCons (gL dLst (gCons (gC (.str [98])) gNil)) gNil)))) gNil)))
      (fr s0 s2 (.val (.str w)) (.val (.lst (ks.map .str))) s5 s6 s7 s8 s9 s10) m = .next (fr s0 s2 (.val (.str w)) (.val (.lst (ks.map .str))) s5 (.val (.str t)) s7 s8 s9 s10) m' ∧ DealOk m' ∧ good 12 t := by
  have sl := slips_ok (w := w) (sg := [[98]]) (m := m) (by have := hw.1; omega) (by decide) (by decide)
  let big := [w] ++ ks ++ ordT (slipsN w [[98]] (w.length + 1))
  have hsl : (ordT (slipsN w [[98]] (w.length + 1))).length ≤ 100 := by
    have q1 := ordT_len (slipsN w [[98]] (w.length + 1))
    have q2 := slips_len w [[98]] (w.length + 1)
    have q3 : (w.length + 1) * (2 * 1 + 2) ≤ 7 * 4 := Nat.mul_le_mul (by have := hw.1; omega) (Nat.le_refl _)
    simp only [List.length_cons, List.length_nil] at q2
    omega
  have hbl : big.length ≤ 1000 := by
    simp only [big, List.length_append, List.length_cons, List.length_nil]
    omega
  obtain ⟨z, m2, e2, hz, d2, a2⟩ := of_texts (m := m) (xs := big) (d := .lst (big.map .str)) h rfl (fun z => by cases z) (by simp [big]) (by omega)
  refine ⟨z, m2, ?_, d2, ?_⟩
  · have g1 : dLst [.str w] = some (.lst ([w].map .str)) := lst_strs (xs := [w]) (by simp)
    have g2' : dLst [.str [98]] = some (.lst ([[98]].map .str)) := lst_strs (xs := [[98]]) (by decide)
    have g3 : dAdd (.lst ([w].map .str)) (.lst (ks.map .str)) = some (.lst (([w] ++ ks).map .str)) := app_list _ _ (by rw [lim_def]; simp; omega)
    have g4 : dAdd (.lst (([w] ++ ks).map .str)) (.lst ((ordT (slipsN w [[98]] (w.length + 1))).map .str)) = some (.lst (big.map .str)) := app_list _ _ (by
      rw [lim_def]; simp only [List.length_append, List.length_cons, List.length_nil]; omega)
    simp only [sSet, gCall, gCons, gNil, gVar, gSee, g2, gL, gC, ret, lift, Out.bind, ofE, fr, List.getElem?_cons_zero, List.getElem?_cons_succ, dfM, out1, g1, sl, g2', g3, g4, e2, List.set]
  · rcases List.mem_append.mp hz with hz | hz
    · rcases List.mem_append.mp hz with hz | hz
      · rw [List.mem_singleton.mp hz]; exact hw.mono (by omega)
      · exact (hg z hz).mono (by omega)
    · refine (slips_good hw (fun s hs => ?_) (mem_ordT.mp hz)).mono (by omega)
      rw [List.mem_singleton.mp hs]; exact ⟨by decide, by decide⟩
theorem due_ok {m : Store} {t : Tx} {ks : List Tx} (ht : good 12 t) (hg : ∀ x ∈ ks, good 11 x) (hl : ks.length ≤ 20) :
    sSet 7 (g1 dSortSet (gLc [11] (iSeq (gVar 4)) (.nm 11) (tB (g2 dIn (gSee 11) (gCall (dfM f_law_all_slips) (gCons (gVar 6) (gCons (g1 dSortSet (gL dList (gCons (gSee 11) gNil))) gNil))))) (gVar 11)))
      (fr s0 s2 s3 (.val (.lst (ks.map .str))) s5 (.val (.str t)) s7 s8 s9 s10) m = .next (fr s0 s2 s3 (.val (.lst (ks.map .str))) s5 (.val (.str t)) (.val (.lst ((nr ks t).map .str))) s8 s9 s10) m := by
  have e1 : gLc [11] (iSeq (gVar 4)) (.nm 11) (tB (g2 dIn (gSee 11) (gCall (dfM f_law_all_slips) (gCons (gVar 6) (gCons (g1 dSortSet (gL dList (gCons (gSee 11) gNil))) gNil))))) (gVar 11)
      (fr s0 s2 s3 (.val (.lst (ks.map .str))) s5 (.val (.str t)) s7 s8 s9 s10) m = .ok (.lst ((ks.filter fun k => slip k t).map .str)) m := by
    have := gLc_fm (vs := [11]) (it := iSeq (gVar 4)) (g := .nm 11) (c := tB (g2 dIn (gSee 11) (gCall (dfM f_law_all_slips) (gCons (gVar 6) (gCons (g1 dSortSet (gL dList (gCons (gSee 11) gNil))) gNil))))) (e := gVar 11)
      (t := fr s0 s2 s3 (.val (.lst (ks.map .str))) s5 (.val (.str t)) s7 s8 s9 s10) (m := m) (m1 := m) (ds := ks.map .str)
      (p := fun d => match d with
        | .str k => slip k t
        | _ => true) (f := fun d => d) rfl (by simp only [iSeq, gVar, fr, lift, Out.bind, List.getElem?_cons_zero, List.getElem?_cons_succ, itemsOf]) (fun x hx => by
        obtain ⟨k, hk, rfl⟩ := List.mem_map.mp hx
        have gk := hg k hk
        have hkl := gk.1
        refine ⟨_, rfl, ?_, fun _ => ?_⟩
        · have l1 : dList [.str k] = some (.lst ((k.map fun c => [c]).map .str)) := by
            show (if _ then _ else _) = _
            rw [if_pos (by rw [lim_def]; omega), List.map_map]
            rfl
          have l2 := sort_set (xs := k.map fun c => [c]) (by rw [List.length_map]; omega)
          have sgn : Signs k (ordT (k.map fun c => [c])) := fun s => by
            rw [mem_ordT, List.mem_map]
            exact ⟨fun ⟨c, a, b⟩ => ⟨c, a, b.symm⟩, fun ⟨c, a, b⟩ => ⟨c, a, b.symm⟩⟩
          have l3 := slips_ok (w := t) (sg := ordT (k.map fun c => [c])) (m := m) (by have := ht.1; omega) (by have := ordT_len (k.map fun c => [c]); rw [List.length_map] at this; omega) (fun s hs => by rw [sgn.one s hs]; omega)
          have l4 : decide (k ∈ ordT (slipsN t (ordT (k.map fun c => [c])) (t.length + 1))) = slip k t := by
            rw [Bool.eq_iff_iff, decide_eq_true_iff, mem_ordT, slip_law sgn]
          simp only [wipeF, tB, g2, g1, gL, gCall, gCons, gNil, gSee, gVar, fr, ret, lift, Out.bind, List.set, List.getElem?_cons_zero, List.getElem?_cons_succ, dfM, out1, l1, l2, l3, in_strs, l4]
        · simp only [wipeF, gVar, fr, lift, List.set, List.getElem?_cons_zero, List.getElem?_cons_succ]) (by rw [List.length_map, lim_def]; omega)
    rw [this, List.filter_map, List.map_id']
    rfl
  have := sort_set (xs := ks.filter fun k => slip k t) (by have := List.length_filter_le (fun k => slip k t) ks; omega)
  exact sSet_ok (g1_ok e1 this)
theorem sure_ok {m : Store} {t : Tx} {ks : List Tx} :
    sSet 8 (gIf (tB (g2 dIn (gSee 6) (gSee 4))) (gVar 6) (gIf (tB (g2M dEqM (gLM dLenM (gCons (gSee 7) gNil)) (gC (.int 1)))) (gIx (gSee 7) (gC (.int 0))) (gC .non)))
      (fr s0 s2 s3 (.val (.lst (ks.map .str))) s5 (.val (.str t)) (.val (.lst ((nr ks t).map .str))) s8 s9 s10) m = .next (fr s0 s2 s3 (.val (.lst (ks.map .str))) s5 (.val (.str t)) (.val (.lst ((nr ks t).map .str))) (.val (sureD ks t)) s9 s10) m := by
  have c : tB (g2 dIn (gSee 6) (gSee 4)) (fr s0 s2 s3 (.val (.lst (ks.map .str))) s5 (.val (.str t)) (.val (.lst ((nr ks t).map .str))) s8 s9 s10) m = .ok (decide (t ∈ ks)) m := by
    simp only [tB, g2, gSee, fr, lift, Out.bind, List.getElem?_cons_zero, List.getElem?_cons_succ, in_strs]
  unfold sSet gIf ofE
  rw [c]
  unfold sureD
  by_cases h : t ∈ ks
  · rw [decide_eq_true h, if_pos h]
    rfl
  rw [decide_eq_false h, if_neg h]
  generalize nr ks t = N
  have q : decide ((N.length : Int) = 1) = decide (N.length = 1) := decide_eq_decide.mpr (by omega)
  have l : dLenM m [.lst (N.map .str)] = some (.int N.length) := by
    show some (D.int _) = _
    rw [List.length_map]
  have e : dEqM m (.int N.length) (.int 1) = some (.bl (decide (N.length = 1))) := by
    show some (D.bl (decide _)) = _
    rw [q]
  have c2 : tB (g2M dEqM (gLM dLenM (gCons (gSee 7) gNil)) (gC (.int 1))) (fr s0 s2 s3 (.val (.lst (ks.map .str))) s5 (.val (.str t)) (.val (.lst (N.map .str))) s8 s9 s10) m = .ok (decide (N.length = 1)) m := by
    simp only [tB, g2M, gLM, gCons, gNil, gC, gSee, fr, ret, lift, Out.bind, List.getElem?_cons_zero, List.getElem?_cons_succ, l, e]
  simp only [Out.bind, Bool.false_eq_true, if_false]
  rw [c2]
  match N with
  | [] => rfl
  | [x] => rfl
  | x :: y :: r =>
    have : decide ((x :: y :: r).length = 1) = false := decide_eq_false (by simp)
    rw [this]
    rfl
end
end Pl
set_option Elab.async false
set_option linter.all false
set_option maxRecDepth 100000
set_option maxHeartbeats 4000000
namespace Pl
open TL Wk
theorem gL_ok {f : List D → Option D} {r : GA} {t : Fr} {m m' : Store} {xs : List D} {d : D} (h : r t m = .ok xs m') (e : f xs = some d) : gL f r t m = .ok d m' := by
  unfold gL
  rw [h]
  show lift (f xs) m' = _
  rw [e]
  rfl
theorem gCons_ok {a : GE} {r : GA} {t : Fr} {m m1 m2 : Store} {x : D} {xs : List D} (h1 : a t m = .ok x m1) (h2 : r t m1 = .ok xs m2) : gCons a r t m = .ok (x :: xs) m2 := by
  unfold gCons
  rw [h1]
  show (r t m1).bind _ = _
  rw [h2]
  rfl
theorem nr_good {ks : List Tx} {t : Tx} {n : Nat} (hg : ∀ x ∈ ks, good n x) : ∀ x ∈ nr ks t, good n x := fun x hx => hg x (List.mem_filter.mp (mem_ordT.mp hx)).1
theorem nr_len (ks : List Tx) (t : Tx) : (nr ks t).length ≤ ks.length := Nat.le_trans (ordT_len _) (List.length_filter_le _ _)
theorem sure_good {ks : List Tx} {t : Tx} (ht : good 12 t) (hg : ∀ x ∈ ks, good 11 x) : sureD ks t = .non ∨ ∃ x, sureD ks t = .str x ∧ good 12 x := by
  rcases sure_cases ks t with h | ⟨x, h, hx | hx⟩
  · exact .inl h
  · exact .inr ⟨x, h, by rw [hx]; exact ht⟩
  · exact .inr ⟨x, h, (nr_good hg x hx).mono (by omega)⟩
theorem sure_noObj (ks : List Tx) (t : Tx) : noObj (sureD ks t) = true := by
  rcases sure_cases ks t with h | ⟨x, h, _⟩ <;> rw [h] <;> rfl
theorem ite_no {c : GB} {a : GS} {t : Fr} {m m' : Store} (h : c t m = .ok false m') : sIf c a sNil t m = .next t m' := by
  unfold sIf ofB
  rw [h]
  rfl
section
variable {s0 s2 s3 s5 s10 : TL.Slot}
theorem handed_ok {m : Store} {ks : List Tx} {s6 s7 s8 s9 : TL.Slot} : sSet 9 (gL dList (gCons (gSee 4) gNil)) (fr s0 s2 s3 (.val (.lst (ks.map .str))) s5 s6 s7 s8 s9 s10) m = .next (fr s0 s2 s3 (.val (.lst (ks.map .str))) s5 s6 s7 s8 (.val (.lst (ks.map .str))) s10) m := rfl
/-- the frame behind told -/
def fr2 (s0 s2 s3 s5 : TL.Slot) (ks : List Tx) (t : Tx) (s10 : TL.Slot) : Fr := fr s0 s2 s3 (.val (.lst (ks.map .str))) s5 (.val (.str t)) (.val (.lst ((nr ks t).map .str))) (.val (sureD ks t)) (.val (.lst (ks.map .str))) s10
theorem told_ok {m : Store} {t : Tx} {ks : List Tx} (ht : good 12 t) (hg : ∀ x ∈ ks, good 11 x) (hl : ks.length ≤ 20) :
    sSet 10 (gL dLst (gCons (gPub (gCall (dfN f_near) (gCons (gVar 9) (gCons (gVar 6) gNil)))) (gCons (gCall (dfM f_near) (gPerm [1, 0] (gCons (gVar 6) (gCons (gL dTuple (gCons (gSee 4) gNil)) gNil)))) (gCons (gCall (dfM f_surely) (gCons (gVar 9) (gCons (gVar 6) gNil))) (gCons (gCall (dfM f_surely) (gPerm [1, 0] (gCons (gVar 6) (gCons (gVar 4) gNil)))) gNil)))))
      (fr2 s0 s2 s3 s5 ks t s10) m = .next (fr2 s0 s2 s3 s5 ks t (.val (.lst [.obj m.length, .lst ((nr ks t).map .str), sureD ks t, sureD ks t]))) (m ++ [.lst ((nr ks t).map .str)]) := by
  have k1 : ks.length ≤ 100 := by omega
  have k2 : ∀ k ∈ ks, k.length ≤ 100 := fun k hk => Nat.le_trans (hg k hk).1 (by omega)
  have k3 : t.length ≤ 100 := Nat.le_trans ht.1 (by omega)
  have n1 := near_road (d := .lst (ks.map .str)) (m := m) rfl k1 k2 k3
  have n2 := near_road (d := .tup (ks.map .str)) (m := m ++ [.lst ((nr ks t).map .str)]) rfl k1 k2 k3
  have n3 := surely_ok (m := m ++ [.lst ((nr ks t).map .str)]) k1 k2 k3
  have tp : dTuple [.lst (ks.map .str)] = some (.tup (ks.map .str)) := rfl
  have e : gL dLst (gCons (gPub (gCall (dfN f_near) (gCons (gVar 9) (gCons (gVar 6) gNil)))) (gCons (gCall (dfM f_near) (gPerm [1, 0] (gCons (gVar 6) (gCons (gL dTuple (gCons (gSee 4) gNil)) gNil)))) (gCons (gCall (dfM f_surely) (gCons (gVar 9) (gCons (gVar 6) gNil))) (gCons (gCall (dfM f_surely) (gPerm [1, 0] (gCons (gVar 6) (gCons (gVar 4) gNil)))) gNil))))
      (fr2 s0 s2 s3 s5 ks t s10) m = .ok (.lst [.obj m.length, .lst ((nr ks t).map .str), sureD ks t, sureD ks t]) (m ++ [.lst ((nr ks t).map .str)]) := by
    have d4 : ∀ a b c d : D, dLst [a, b, c, d] = some (.lst [a, b, c, d]) := fun a b c d => if_pos (by rw [lim_def]; simp)
    have a1 : gPub (gCall (dfN f_near) (gCons (gVar 9) (gCons (gVar 6) gNil))) (fr2 s0 s2 s3 s5 ks t s10) m = .ok (.obj m.length) (m ++ [.lst ((nr ks t).map .str)]) := by
      simp only [gPub, gCall, gCons, gNil, gVar, fr2, fr, ret, lift, Out.bind, List.getElem?_cons_zero, List.getElem?_cons_succ, dfN, outN, n1, true_or, if_true]
    have a2 : gCall (dfM f_near) (gPerm [1, 0] (gCons (gVar 6) (gCons (gL dTuple (gCons (gSee 4) gNil)) gNil))) (fr2 s0 s2 s3 s5 ks t s10) (m ++ [.lst ((nr ks t).map .str)]) = .ok (.lst ((nr ks t).map .str)) (m ++ [.lst ((nr ks t).map .str)]) := by
      simp only [gCall, gPerm, gL, gCons, gNil, gVar, gSee, fr2, fr, ret, lift, Out.bind, List.getElem?_cons_zero, List.getElem?_cons_succ, tp, List.filterMap_cons, List.filterMap_nil, dfM, out1, n2]
    have a3 : gCall (dfM f_surely) (gCons (gVar 9) (gCons (gVar 6) gNil)) (fr2 s0 s2 s3 s5 ks t s10) (m ++ [.lst ((nr ks t).map .str)]) = .ok (sureD ks t) (m ++ [.lst ((nr ks t).map .str)]) := by
      simp only [gCall, gCons, gNil, gVar, fr2, fr, ret, lift, Out.bind, List.getElem?_cons_zero, List.getElem?_cons_succ, dfM, out1, n3]
    have a4 : gCall (dfM f_surely) (gPerm [1, 0] (gCons (gVar 6) (gCons (gVar 4) gNil))) (fr2 s0 s2 s3 s5 ks t s10) (m ++ [.lst ((nr ks t).map .str)]) = .ok (sureD ks t) (m ++ [.lst ((nr ks t).map .str)]) := by
      simp only [gCall, gPerm, gCons, gNil, gVar, fr2, fr, ret, lift, Out.bind, List.getElem?_cons_zero, List.getElem?_cons_succ, List.filterMap_cons, List.filterMap_nil, dfM, out1, n3]
    exact gL_ok (gCons_ok a1 (gCons_ok a2 (gCons_ok a3 (gCons_ok a4 rfl)))) (d4 _ _ _ _)
  exact sSet_ok e
theorem der_strs {n : Nat} {m : Store} (xs : List Tx) : der n m (.lst (xs.map .str)) = .lst (xs.map .str) := der_id (by unfold noObj; exact noObjs_strs xs)
theorem der_told {m : Store} {k : Nat} {N : List Tx} {s : D} (h : m[k]? = some (.lst (N.map .str))) (hs : noObj s = true) : der 2 m (.lst [.obj k, .lst (N.map .str), s, s]) = .lst [.lst (N.map .str), .lst (N.map .str), s, s] := by
  have a : ∀ f : Nat → D, mapObjs f (N.map .str) = N.map .str := fun f => mapObjs_id (noObjs_strs N)
  have b : ∀ f : Nat → D, mapObj f s = s := fun f => mapObj_id hs
  unfold der
  simp only [mapObj, mapObjs, a, b]
  rw [h]
  simp only [der_strs]
theorem check_ok {m : Store} {t : Tx} {ks : List Tx} {k1 : Nat} (ht : good 12 t) (hg : ∀ x ∈ ks, good 11 x) (hl : ks.length ≤ 20) (hk : m[k1]? = some (.lst ((nr ks t).map .str))) :
    sIf (tOr (tNot (tB (gCall (dfM f_law_same) (gCons (gVar 10) (gCons (gL dLst (gCons (gVar 7) (gCons (gVar 7) (gCons (gVar 8) (gCons (gVar 8) gNil))))) gNil))))) (tB (g2M dNeM (gSee 9) (gSee 4)))) (sRet (gC (.bl false))) sNil
      (fr2 s0 s2 s3 s5 ks t (.val (.lst [.obj k1, .lst ((nr ks t).map .str), sureD ks t, sureD ks t]))) m = .next (fr2 s0 s2 s3 s5 ks t (.val (.lst [.obj k1, .lst ((nr ks t).map .str), sureD ks t, sureD ks t]))) m := by
  have ng := fun x hx => (nr_good (t := t) hg x hx).mono (k := 12) (by omega)
  have sh := show_told (N := nr ks t) (s := sureD ks t) (n := 12) ng (by have := nr_len ks t; omega) (by omega) (sure_good ht hg)
  have sn := sure_noObj ks t
  have e1 : f_law_same [.lst [.obj k1, .lst ((nr ks t).map .str), sureD ks t, sureD ks t], .lst [.lst ((nr ks t).map .str), .lst ((nr ks t).map .str), sureD ks t, sureD ks t]] m = .ok (false, .bl true) m :=
    same_ok (der_told hk sn) (der_id (show_noObj sh)) sh rfl rfl rfl
  have d4 : ∀ a b c d : D, dLst [a, b, c, d] = some (.lst [a, b, c, d]) := fun a b c d => if_pos (by rw [lim_def]; simp)
  have sk := show_texts hg (by omega) (by omega)
  have fk := (show_ok sk).1
  have ok : okD (.lst (ks.map .str)) = true := by unfold fine at fk; exact (Bool.and_eq_true_iff.mp fk).1
  have e2 : dNeM m (.lst (ks.map .str)) (.lst (ks.map .str)) = some (.bl false) := by
    unfold dNeM
    rw [show scalD (.lst (ks.map .str)) (.lst (ks.map .str)) = false from rfl, if_neg Bool.false_ne_true, der_strs, if_pos ⟨fk, fk⟩, deq_refl ok]
    rfl
  refine ite_no ?_
  simp only [tOr, tNot, tB, g2M, gL, gCall, gCons, gNil, gVar, gSee, fr2, fr, ret, lift, Out.bind, List.getElem?_cons_zero, List.getElem?_cons_succ, d4, dfM, out1, e1, e2, Bool.not_true, Bool.false_eq_true, if_false]
theorem spoil_ok {m : Store} {t : Tx} {ks : List Tx} {k1 : Nat} (hl : ks.length ≤ 20) (hk : m[k1]? = some (.lst ((nr ks t).map .str))) {r : List D} :
    ∃ d, sCapp (gIx (gSee 10) (gC (.int 0))) (gC (.str [113])) (fr2 s0 s2 s3 s5 ks t (.val (.lst (.obj k1 :: r)))) m = .next (fr2 s0 s2 s3 s5 ks t (.val (.lst (.obj k1 :: r)))) (m.set k1 d) := by
  have hlim : ((nr ks t).map D.str).length < LIM := by rw [List.length_map, lim_def]; have := nr_len ks t; omega
  refine ⟨.lst ((nr ks t).map .str ++ [.str [113]]), ?_⟩
  have i1 : dIx m (.lst (.obj k1 :: r)) (.int 0) = some (.obj k1) := by
    show atD (.obj k1 :: r) 0 = _
    unfold atD ixOf
    rw [if_pos (Int.le_refl 0), if_pos (by simp)]
    first | done | rfl
  simp only [sCapp, gIx, gSee, gC, fr2, fr, ret, lift, Out.bind, ofE, List.getElem?_cons_zero, List.getElem?_cons_succ, i1, hk, hlim, if_true]
theorem again_ok {m : Store} {t : Tx} {ks : List Tx} (ht : good 12 t) (hg : ∀ x ∈ ks, good 11 x) (hl : ks.length ≤ 20) :
    sIf (tNot (tB (gCall (dfM f_law_same) (gCons (gCall (dfM f_near) (gCons (gVar 4) (gCons (gVar 6) gNil))) (gCons (gVar 7) gNil))))) (sRet (gC (.bl false))) sNil (fr2 s0 s2 s3 s5 ks t s10) m = .next (fr2 s0 s2 s3 s5 ks t s10) m := by
  have n1 := near_road (d := .lst (ks.map .str)) (m := m) (t := t) rfl (by omega) (fun k hk => Nat.le_trans (hg k hk).1 (by omega)) (Nat.le_trans ht.1 (by omega))
  have sh := show_texts (nr_good (t := t) hg) (by have := nr_len ks t; omega) (by omega)
  have e1 : f_law_same [.lst ((nr ks t).map .str), .lst ((nr ks t).map .str)] m = .ok (false, .bl true) m := same_ok (der_strs _) (der_strs _) sh rfl rfl rfl
  refine ite_no ?_
  simp only [tNot, tB, gCall, gCons, gNil, gVar, fr2, fr, ret, lift, Out.bind, List.getElem?_cons_zero, List.getElem?_cons_succ, dfM, out1, n1, e1, Bool.not_true]
end
def turnB : GS := (sSeq (sSet 3 (gCall (dfM f_law_ordinary) (gCons (gVar 1) gNil))) (sSeq (sSet 4 (gPub (gL dLst (gCons (gVar 3) gNil)))) (sSeq (sFor (iRng1 (gCons (gCall (dfM f_law_pick) (gCons (gVar 1) (gCons (gC (.int 6)) gNil))) gNil)) (.nm 5) (sCapp (gSee 4) (gCall (dfM f_law_of) (gCons (gVar 1) (gCons (g2 dAdd (gCall (dfM f_law_all_slips) (gCons (gCall (dfM f_law_of) (gCons (gVar 1) (gCons (gVar 4) gNil))) (gCons (gL dLst (gCons (gC (.str [97])) (gCons (gC (.str [57])) gNil))) gNil))) (gL dLst (gCons (gVar 3) gNil))) gNil))))) (sSeq (sSet 4 (gSlM (gSee 4) (oAt (gCall (dfM f_law_pick) (gCons (gVar 1) (gCons (gC (.int 2)) gNil)))) oNo)) (sSeq (sSet 6 (gCall (dfM f_law_of) (gCons (gVar 1) (gCons (g2 dAdd (g2 dAdd (gL dLst (gCons (gVar 3) gNil)) (gSee 4)) (gCall (dfM f_law_all_slips) (gCons (gVar 3) (gCons (gL dLst (gCons (gC (.str [98])) gNil)) gNil)))) gNil)))) (sSeq (sSet 7 (g1 dSortSet (gLc [11] (iSeq (gVar 4)) (.nm 11) (tB (g2 dIn (gSee 11) (gCall (dfM f_law_all_slips) (gCons (gVar 6) (gCons (g1 dSortSet (gL dList (gCons (gSee 11) gNil))) gNil))))) (gVar 11)))) (sSeq (sSet 8 (gIf (tB (g2 dIn (gSee 6) (gSee 4))) (gVar 6) (gIf (tB (g2M dEqM (gLM dLenM (gCons (gSee 7) gNil)) (gC (.int 1)))) (gIx (gSee 7) (gC (.int 0))) (gC .non)))) (sSeq (sSet 9 (gL dList (gCons (gSee 4) gNil))) (sSeq (sSet 10 (gL dLst (gCons (gPub (gCall (dfN f_near) (gCons (gVar 9) (gCons (gVar 6) gNil)))) (gCons (gCall (dfM f_near) (gPerm [1, 0] (gCons (gVar 6) (gCons (gL dTuple (gCons (gSee 4) gNil)) gNil)))) (gCons (gCall (dfM f_surely) (gCons (gVar 9) (gCons (gVar 6) gNil))) (gCons (gCall (dfM f_surely) (gPerm [1, 0] (gCons (gVar 6) (gCons (gVar 4) gNil)))) gNil)))))) (sSeq (sIf (tOr (tNot (tB (gCall (dfM f_law_same) (gCons (gVar 10) (gCons (gL dLst (gCons (gVar 7) (gCons (gVar 7) (gCons (gVar 8) (gCons (gVar 8) gNil))))) gNil))))) (tB (g2M dNeM (gSee 9) (gSee 4)))) (sRet (gC (.bl false))) sNil) (sSeq (sCapp (gIx (gSee 10) (gC (.int 0))) (gC (.str [113]))) (sIf (tNot (tB (gCall (dfM f_law_same) (gCons (gCall (dfM f_near) (gCons (gVar 4) (gCons (gVar 6) gNil))) (gCons (gVar 7) gNil))))) (sRet (gC (.bl false))) sNil))))))))))))
/-- one turn of the law -/
theorem turn_good {m : Store} {s0 s2 s3 s4 s5 s6 s7 s8 s9 s10 : TL.Slot} (h : DealOk m) : ∃ s2' s3' s4' s5' s6' s7' s8' s9' s10' m', turnB (fr s0 s2 s3 s4 s5 s6 s7 s8 s9 s10) m = .next (fr s0 s2' s3' s4' s5' s6' s7' s8' s9' s10') m' ∧ DealOk m' := by
  obtain ⟨w, m1, e1, w1, w2, d1, a1⟩ := ordinary_ok h
  have gw : good 6 w := ⟨w1, w2⟩
  let k0 := m1.length
  have hk0 : k0 ≠ 0 := by have := d1.lt; show m1.length ≠ 0; omega
  have d2 := d1.app (.lst ([w].map .str))
  obtain ⟨cs, i, v, k, hd⟩ := id d2
  obtain ⟨r, m3, e3, r0, r1, d3, a3⟩ := pick_ok hd (n := 6) (by omega) (by omega)
  have hc3 : m3[k0]? = some (.lst ([w].map .str)) := by
    rw [a3.2 k0 hk0]
    exact List.getElem?_concat_length
  obtain ⟨t', m4, e4, hJ⟩ := sFor_inv (it := iRng1 (gCons (gCall (dfM f_law_pick) (gCons (gVar 1) (gCons (gC (.int 6)) gNil))) gNil)) (g := .nm 5) (ds := rng 0 r.toNat)
    (body := sCapp (gSee 4) (gCall (dfM f_law_of) (gCons (gVar 1) (gCons (g2 dAdd (gCall (dfM f_law_all_slips) (gCons (gCall (dfM f_law_of) (gCons (gVar 1) (gCons (gVar 4) gNil))) (gCons (gL dLst (gCons (gC (.str [97])) (gCons (gC (.str [57])) gNil))) gNil))) (gL dLst (gCons (gVar 3) gNil))) gNil))))
    (J := fun i t m => DealOk m ∧ ∃ s5 cur, t = fr s0 s2 (.val (.str w)) (.val (.obj k0)) s5 s6 s7 s8 s9 s10 ∧ m[k0]? = some (.lst (cur.map D.str)) ∧ 0 < cur.length ∧ cur.length ≤ 1 + i ∧ (∀ x ∈ cur, good (6 + i) x) ∧ i ≤ 5)
    (t := fr s0 s2 (.val (.str w)) (.val (.obj k0)) s5 s6 s7 s8 s9 s10) (m := m1 ++ [.lst ([w].map .str)]) (m1 := m3)
    (by
      have hb : -BIG ≤ r ∧ r < BIG := by unfold BIG; omega
      simp only [iRng1, gCall, gCons, gNil, gVar, gC, fr, ret, lift, Out.bind, List.getElem?_cons_zero, List.getElem?_cons_succ, dfM, out1, e3]
      rw [if_pos hb])
    ⟨d3, s5, [w], rfl, hc3, by simp, by simp, fun x hx => by rw [List.mem_singleton.mp hx]; exact gw, by omega⟩
    (fun i d hd t m ⟨hm, s5', cur, ht, hc, hl1, hl2, hgd, hi⟩ => by
      obtain ⟨hir, rfl⟩ := rng_get hd
      subst ht
      have hi4 : i < 5 := by omega
      obtain ⟨z, m', e, dm, hz, gz⟩ := grow_ok (s0 := s0) (s2 := s2) (s5 := .val (.int (0 + (i : Int)))) (s6 := s6) (s7 := s7) (s8 := s8) (s9 := s9) (s10 := s10) hm hk0 hc hl1 (by omega) hgd (gw.mono (by omega)) (by omega)
      exact ⟨_, _, m', rfl, .inl e, dm, _, cur ++ [z], rfl, hz, by simp, by simp; omega, fun x hx => by
        rcases List.mem_append.mp hx with hx | hx
        · exact (hgd x hx).mono (by omega)
        · rw [List.mem_singleton.mp hx]; exact gz, by omega⟩)
  obtain ⟨d4, s5', cur, rfl, hc4, hl1, hl2, hg4, hi4⟩ := hJ
  obtain ⟨ks, m5, e5, d5, sub, hl5⟩ := cut_keys (s0 := s0) (s2 := s2) (s3 := .val (.str w)) (s5 := s5') (s6 := s6) (s7 := s7) (s8 := s8) (s9 := s9) (s10 := s10) d4 hk0 hc4
  have gk : ∀ x ∈ ks, good 11 x := fun x hx => (hg4 x (sub x hx)).mono (by omega)
  have lk : ks.length ≤ 20 := by omega
  obtain ⟨t, m6, e6, d6, gt⟩ := text_in (s0 := s0) (s2 := s2) (s5 := s5') (s6 := s6) (s7 := s7) (s8 := s8) (s9 := s9) (s10 := s10) d5 gw gk lk
  have e7 := due_ok (s0 := s0) (s2 := s2) (s3 := .val (.str w)) (s5 := s5') (s7 := s7) (s8 := s8) (s9 := s9) (s10 := s10) (m := m6) gt gk lk
  have e8 := sure_ok (s0 := s0) (s2 := s2) (s3 := .val (.str w)) (s5 := s5') (s8 := s8) (s9 := s9) (s10 := s10) (m := m6) (t := t) (ks := ks)
  have e9 := handed_ok (s0 := s0) (s2 := s2) (s3 := .val (.str w)) (s5 := s5') (s10 := s10) (m := m6) (ks := ks) (s6 := .val (.str t)) (s7 := .val (.lst ((nr ks t).map .str))) (s8 := .val (sureD ks t)) (s9 := s9)
  have e10 := told_ok (s0 := s0) (s2 := s2) (s3 := .val (.str w)) (s5 := s5') (s10 := s10) (m := m6) gt gk lk
  have hk1 : (m6 ++ [D.lst ((nr ks t).map .str)])[m6.length]? = some (.lst ((nr ks t).map .str)) := List.getElem?_concat_length
  have e11 := check_ok (s0 := s0) (s2 := s2) (s3 := .val (.str w)) (s5 := s5') gt gk lk hk1
  obtain ⟨d, e12⟩ := spoil_ok (s0 := s0) (s2 := s2) (s3 := .val (.str w)) (s5 := s5') (t := t) lk hk1 (r := [.lst ((nr ks t).map .str), sureD ks t, sureD ks t])
  have d7 := (d6.app (.lst ((nr ks t).map .str))).set (show m6.length ≠ 0 by have := d6.lt; omega) d
  refine ⟨s2, .val (.str w), .val (.lst (ks.map .str)), s5', .val (.str t), .val (.lst ((nr ks t).map .str)), .val (sureD ks t), .val (.lst (ks.map .str)), .val (.lst [.obj m6.length, .lst ((nr ks t).map .str), sureD ks t, sureD ks t]), _, ?_, d7⟩
  · unfold turnB
    rw [seq_next (t' := fr s0 s2 (.val (.str w)) s4 s5 s6 s7 s8 s9 s10) (m' := m1) (by
      simp only [sSet, gCall, gCons, gNil, gVar, fr, ret, lift, Out.bind, ofE, List.getElem?_cons_zero, List.getElem?_cons_succ, dfM, out1, e1, List.set])]
    rw [seq_next (t' := fr s0 s2 (.val (.str w)) (.val (.obj k0)) s5 s6 s7 s8 s9 s10) (m' := m1 ++ [.lst ([w].map .str)]) (by
      have : dLst [.str w] = some (.lst ([w].map .str)) := lst_strs (xs := [w]) (by simp)
      simp only [sSet, gPub, gL, gCons, gNil, gVar, fr, ret, lift, Out.bind, ofE, List.getElem?_cons_zero, List.getElem?_cons_succ, this, List.set]
      rfl)]
    rw [seq_next e4, seq_next e5, seq_next e6, seq_next e7, seq_next e8, seq_next e9]
    have e10' := seq_next (b := sSeq (sIf (tOr (tNot (tB (gCall (dfM f_law_same) (gCons (gVar 10) (gCons (gL dLst (gCons (gVar 7) (gCons (gVar 7) (gCons (gVar 8) (gCons (gVar 8) gNil))))) gNil))))) (tB (g2M dNeM (gSee 9) (gSee 4)))) (sRet (gC (.bl false))) sNil) (sSeq (sCapp (gIx (gSee 10) (gC (.int 0))) (gC (.str [113]))) (sIf (tNot (tB (gCall (dfM f_law_same) (gCons (gCall (dfM f_near) (gCons (gVar 4) (gCons (gVar 6) gNil))) (gCons (gVar 7) gNil))))) (sRet (gC (.bl false))) sNil))) e10
    refine e10'.trans ?_
    rw [seq_next e11, seq_next e12]
    exact again_ok gt gk lk
end Pl
set_option Elab.async false
set_option linter.all false
set_option maxRecDepth 100000
set_option maxHeartbeats 4000000
namespace Pl
open TL Wk
theorem ord_two : (nr [[97, 98], [97, 99]] [97]).length = 2 := by
  have e : ([[97, 98], [97, 99]].filter fun k => slip k [97]) = [[97, 98], [97, 99]] := by decide
  unfold nr ordT
  rw [e, (srtT_pm _).length_eq]
  decide
theorem ord_one : nr [[97, 98], [97, 98]] [97] = [[97, 98]] := by
  have e : ([[97, 98], [97, 98]].filter fun k => slip k [97]) = [[97, 98], [97, 98]] := by decide
  unfold nr ordT
  rw [e, show dedT [[97, 98], [97, 98]] = [[97, 98]] by decide]
  exact srtT_one (List.Perm.refl _) (List.pairwise_singleton _ _)
theorem nr_nil (t : Tx) : nr [] t = [] := by
  have := nr_len [] t
  exact List.eq_nil_of_length_eq_zero (by simpa using this)
theorem sure_nil : sureD [] [97] = .non := by
  unfold sureD
  rw [if_neg (by decide), nr_nil]
theorem sure_two : sureD [[97, 98], [97, 99]] [97] = .non := by
  have h := ord_two
  unfold sureD
  rw [if_neg (by decide)]
  match nr [[97, 98], [97, 99]] [97], h with
  | [x, y], _ => rfl
theorem sure_one : sureD [[97, 98], [97, 98]] [97] = .str [97, 98] := by
  unfold sureD
  rw [if_neg (by decide), ord_one]
theorem last_ok {m : Store} {t : Fr} : ((sRet (gCall (dfM f_law_same) (gCons (gL dLst (gCons (gCall (dfM f_near) (gCons (gL dLst gNil) (gCons (gC (.str [97])) gNil))) (gCons (gCall (dfM f_surely) (gCons (gL dLst gNil) (gCons (gC (.str [97])) gNil))) (gCons (gCall (dfM f_surely) (gCons (gL dLst (gCons (gC (.str [97, 98])) (gCons (gC (.str [97, 99])) gNil))) (gCons (gC (.str [97])) gNil))) (gCons (gCall (dfM f_surely) (gCons (gL dLst (gCons (gC (.str [97, 98])) (gCons (gC (.str [97, 98])) gNil))) (gCons (gC (.str [97])) gNil))) gNil))))) (gCons (gL dLst (gCons (gL dLst gNil) (gCons (gC .non) (gCons (gC .non) (gCons (gC (.str [97, 98])) gNil))))) gNil))))) t m = .ret false (.bl true) m := by
  have n0 : f_near [.lst [], .str [97]] m = .ok (true, .lst []) m := by
    have := near_road (ks := []) (t := [97]) (d := .lst []) (m := m) rfl (by decide) (by decide) (by decide)
    rw [nr_nil] at this
    exact this
  have s0 : f_surely [.lst [], .str [97]] m = .ok (false, .non) m := by
    have := surely_ok (ks := []) (t := [97]) (m := m) (by decide) (by decide) (by decide)
    rw [sure_nil] at this
    exact this
  have s1 : f_surely [.lst [.str [97, 98], .str [97, 99]], .str [97]] m = .ok (false, .non) m := by
    have := surely_ok (ks := [[97, 98], [97, 99]]) (t := [97]) (m := m) (by decide) (by decide) (by decide)
    rw [sure_two] at this
    exact this
  have s2 : f_surely [.lst [.str [97, 98], .str [97, 98]], .str [97]] m = .ok (false, .str [97, 98]) m := by
    have := surely_ok (ks := [[97, 98], [97, 98]]) (t := [97]) (m := m) (by decide) (by decide) (by decide)
    rw [sure_one] at this
    exact this
  have d : ∀ xs : List D, xs.length ≤ 10 → dLst xs = some (.lst xs) := fun xs h => if_pos (by rw [lim_def]; omega)
  have sh : showOk (.lst [.lst [], .non, .non, .str [97, 98]]) = true := by decide
  have sm : f_law_same [.lst [.lst [], .non, .non, .str [97, 98]], .lst [.lst [], .non, .non, .str [97, 98]]] m = .ok (false, .bl true) m := same_ok (der_id (by decide)) (der_id (by decide)) sh rfl rfl rfl
  have d0 := d [] (by decide)
  have d1 := d [.str [97, 98], .str [97, 99]] (by decide)
  have d2 := d [.str [97, 98], .str [97, 98]] (by decide)
  have d3 := d [.lst [], .non, .non, .str [97, 98]] (by decide)
  simp only [sRet, gCall, gL, gCons, gNil, gC, ret, lift, Out.bind, ofE, dfM, out1, d0, n0, s0, d1, s1, d2, s2, d3, sm]
theorem plain (ns : List Int) (h : ns.length ≤ 63) : ∃ fr m, f_law [.lst (ns.map .int)] [] = .ok (fr, .bl true) m := by
  obtain ⟨cs, k, e0⟩ := deal_ok ns h
  have d0 : DealOk [.lst [.lst (cs.map .int), .int 0, .int 0, .int k]] := ⟨cs, 0, 0, k, rfl, Int.le_refl 0⟩
  obtain ⟨t', m', e1, hd, s2, s3, s4, s5, s6, s7, s8, s9, s10, ht⟩ := sFor_inv (it := iRng1 (gCons (gC (.int 4)) gNil)) (g := .nm 2) (body := turnB) (ds := rng 0 4)
    (J := fun _ t m => DealOk m ∧ ∃ s2 s3 s4 s5 s6 s7 s8 s9 s10, t = fr (.val (.lst (ns.map .int))) s2 s3 s4 s5 s6 s7 s8 s9 s10)
    (t := fr (.val (.lst (ns.map .int))) .no .no .no .no .no .no .no .no .no) (m := [.lst [.lst (cs.map .int), .int 0, .int 0, .int k]]) (m1 := [.lst [.lst (cs.map .int), .int 0, .int 0, .int k]])
    rfl ⟨d0, _, _, _, _, _, _, _, _, _, rfl⟩ (fun i d _ t m ⟨hm, s2, s3, s4, s5, s6, s7, s8, s9, s10, ht⟩ => by
      subst ht
      obtain ⟨a2, a3, a4, a5, a6, a7, a8, a9, a10, m', e, dm⟩ := turn_good (s0 := .val (.lst (ns.map .int))) (s2 := .val d) (s3 := s3) (s4 := s4) (s5 := s5) (s6 := s6) (s7 := s7) (s8 := s8) (s9 := s9) (s10 := s10) hm
      exact ⟨_, _, m', rfl, .inl e, dm, _, _, _, _, _, _, _, _, _, rfl⟩)
  refine ⟨false, m', fnM_ret rfl ?_⟩
  show b_law [.val (.lst (ns.map .int)), .no, .no, .no, .no, .no, .no, .no, .no, .no, .no, .no] [] = _
  unfold b_law
  rw [seq_next (t' := [.val (.lst (ns.map .int)), .own (.lst [.lst (cs.map .int), .int 0, .int 0, .int k]), .no, .no, .no, .no, .no, .no, .no, .no, .no, .no]) (m' := []) (by
    simp only [sNew, gCall, gCons, gNil, gVar, ret, lift, Out.bind, ofE, List.getElem?_cons_zero, dfN, outN, e0, true_or, if_true]
    rfl)]
  refine (seq_next (a := sPub 1) (t' := fr (.val (.lst (ns.map .int))) .no .no .no .no .no .no .no .no .no) (m' := [.lst [.lst (cs.map .int), .int 0, .int 0, .int k]]) rfl).trans ?_
  refine (seq_next e1).trans ?_
  exact last_ok
end Pl
set_option Elab.async false
set_option linter.all false
set_option maxRecDepth 100000
set_option maxHeartbeats 0
namespace Wk
open PySem PySem.Spec
open PyProof.Rows hiding St
open L2 (V HO Hp Cx Inv VK XK Vals FunD FnScope defArgs defBody defScope cxOf)
open TL
def top (i : Nat) : Stmt := PySem.Challenge.pw_rivalkeys_k56_keys_that_are_near.main.body.getD i (.Pass ⟨0, 0, 0, 0⟩)
abbrev s_law_deal : Stmt := top 6
abbrev s_law_pick : Stmt := top 7
abbrev s_law_of : Stmt := top 8
abbrev s_law_ordinary : Stmt := top 10
abbrev s_law_all_slips : Stmt := top 11
abbrev s_is_left_out : Stmt := top 1
abbrev s_is_slip : Stmt := top 2
abbrev s_near : Stmt := top 3
abbrev s_surely : Stmt := top 4
abbrev s_law_same : Stmt := top 9
abbrev s_law : Stmt := top 12
def N_law_deal : List Str := ["_law_script", "_law_cells", "_law_mark", "_law_cell"]
def N_law_pick : List Str := ["_law_deal_here", "_law_many", "_law_drawn", "_law_cell", "_law_early", "_law_late"]
def N_law_of : List Str := ["_law_deal_here", "_law_items"]
def N_law_ordinary : List Str := ["_law_deal_here", "_law_k"]
def N_law_all_slips : List Str := ["_law_word", "_law_signs", "_law_found", "_law_at", "_law_sign"]
def N_is_left_out : List Str := ["short", "long", "at"]
def N_is_slip : List Str := ["one", "other", "spots", "first", "second", "at"]
def N_near : List Str := ["keys", "text", "key"]
def N_surely : List Str := ["keys", "text", "found"]
def N_law_same : List Str := ["_law_found", "_law_due"]
def N_law : List Str := ["_law_script", "_law_deal_here", "_law_turn", "_law_word", "_law_keys_z", "_law_k", "_law_text_in", "_law_due", "_law_sure", "_law_handed", "_law_told", "_law_key"]
section
variable {T : Tab} {P : Program} {w : World} {mg : Str → Option Value} {base : Heap} {fa : Addr} {fd : FuncData}
theorem sc_law_deal : FnScope N_law_deal ["_law_script"] (defScope s_law_deal) := ⟨rfl, rfl, rfl, by decide +kernel, rfl, by decide +kernel, by decide +kernel⟩
theorem ok_law_deal (F : FnP T.K "_law_deal" s_law_deal fa fd) (n_int : mg "int" = none) (n_len : mg "len" = none) : FnG P w T.K mg base 1 fa fd ["_law_script"] (spT T 1 f_law_deal) := by
  refine fn_ok (N := N_law_deal) (ps := ["_law_script"]) (k := 0) (FnD_lk F) sc_law_deal (by decide) fun cdv A outer s H E hr hgd => ?_
  have hun := hr.un
  have hu3 : (A.deeper (envOfC "_law_deal" (defScope s_law_deal) s.heap.objs.size fa cdv)).units + 3 < cLine := by omega
  have hu64 : (A.deeper (envOfC "_law_deal" (defScope s_law_deal) s.heap.objs.size fa cdv)).units + 64 < cLine := by omega
  have hu65 : (A.deeper (envOfC "_law_deal" (defScope s_law_deal) s.heap.objs.size fa cdv)).units + 65 < cLine := by omega
  have scN := sc_law_deal.nd
  exact (Ess.cons (Es.lcn 1 rfl rfl scN (own := [("_law_cell", 3)]) (g := (.nm 3)) (Ei.seq rfl (Ev.nt (Ev.sl rfl (Ev.ps 0) Eo.no (Eo.at Ev.cint)))) (L2.blkOk_by (by rfl)) (by decide) (fun _ _ _ _ _ => pgn 3 scN) (fun _ _ _ _ _ => Ets.nil) (fun _ _ _ _ _ => (Ev.callT FnS.int rfl n_int boot_int (Ea.cons (Ev.ps 3) Ea.nil)))) (Ess.freeze (Ess.cons (Es.st 2 scN (Ev.nt (Ev.op (Op2.add rfl) Ev.cint (Ev.op Op2.mul Ev.cint (Ev.callB (FnS.len rfl) rfl n_len boot_len (Ea.cons (Ev.ps 1) Ea.nil)))))) (Ess.cons (Es.forS (g := (.nm 3)) (Ei.seq rfl (Ev.pv 1)) (pgn 3 scN) (Ess.one (Es.st 2 scN (Ev.op Op2.mod (Ev.callT FnS.int rfl n_int boot_int (Ea.cons (Ev.nv (Ev.op (Op2.add rfl) (Ev.op Op2.mul (Ev.ps 2) Ev.cint) (Ev.ps 3))) Ea.nil)) Ev.cint))) (L2.passes_of rfl) rfl) (Ess.one (Es.retF (Ev.lst (Ea.cons (Ev.pv 1) (Ea.cons Ev.cint (Ea.cons Ev.cint (Ea.cons (Ev.pv 2) Ea.nil)))))))))))
theorem sc_law_pick : FnScope N_law_pick ["_law_deal_here", "_law_many"] (defScope s_law_pick) := ⟨rfl, rfl, rfl, by decide +kernel, rfl, by decide +kernel, by decide +kernel⟩
theorem ok_law_pick (F : FnP T.K "_law_pick" s_law_pick fa fd) (n_int : mg "int" = none) (n_len : mg "len" = none) : FnG P w T.K mg base 1 fa fd ["_law_deal_here", "_law_many"] (spT T 2 f_law_pick) := by
  refine fn_ok (N := N_law_pick) (ps := ["_law_deal_here", "_law_many"]) (k := 0) (FnD_lk F) sc_law_pick (by decide) fun cdv A outer s H E hr hgd => ?_
  have hun := hr.un
  have hu3 : (A.deeper (envOfC "_law_pick" (defScope s_law_pick) s.heap.objs.size fa cdv)).units + 3 < cLine := by omega
  have hu64 : (A.deeper (envOfC "_law_pick" (defScope s_law_pick) s.heap.objs.size fa cdv)).units + 64 < cLine := by omega
  have hu65 : (A.deeper (envOfC "_law_pick" (defScope s_law_pick) s.heap.objs.size fa cdv)).units + 65 < cLine := by omega
  have scN := sc_law_pick.nd
  exact (Ess.cons (Es.ite (Et.cmp Op2.lt (Ev.tv (Ev.ix rfl (Ev.ps 0) Ev.cint)) Ev.cint) (Ess.cons (Es.cset (Ev.nt (Ev.op (Op2.add rfl) (Ev.tv (Ev.ix rfl (Ev.ps 0) Ev.cint)) Ev.cint)) (Ev.ps 0) Ev.cint) (Ess.cons (Es.st 3 scN (Ev.nt (Ev.op (Op2.add rfl) (Ev.tv (Ev.ix rfl (Ev.ps 0) Ev.cint)) (Ev.op Op2.mul (Ev.tv (Ev.ix rfl (Ev.ps 0) Ev.cint)) Ev.cint)))) (Ess.cons (Es.ite (Et.cmp Op2.le (Ev.tv (Ev.ix rfl (Ev.ps 0) Ev.cint)) (Ev.callB (FnS.len rfl) rfl n_len boot_len (Ea.cons (Ev.tv (Ev.ix rfl (Ev.ps 0) Ev.cint)) Ea.nil))) (Ess.one (Es.st 3 scN (Ev.ix rfl (Ev.tv (Ev.ix rfl (Ev.ps 0) Ev.cint)) (Ev.op Op2.sub (Ev.tv (Ev.ix rfl (Ev.ps 0) Ev.cint)) Ev.cint)))) Ess.nil) (Ess.cons (Es.ite (Ew.et (Ew.or (Et.cmp Op2.gt (Ev.tv (Ev.ix rfl (Ev.ps 0) Ev.cint)) (Ev.callB (FnS.len rfl) rfl n_len boot_len (Ea.cons (Ev.tv (Ev.ix rfl (Ev.ps 0) Ev.cint)) Ea.nil))) (Ew.or1 (Et.cmp Op2.lt (Ev.ps 3) (Ev.op Op2.pow Ev.cint Ev.cint))))) (Ess.cons (Es.st 4 scN (Ev.op Op2.mod (Ev.callT FnS.int rfl n_int boot_int (Ea.cons (Ev.nv (Ev.op (Op2.add rfl) (Ev.nv (Ev.op (Op2.add rfl) (Ev.op Op2.mul (Ev.ps 3) Ev.cint) (Ev.op Op2.mul (Ev.tv (Ev.ix rfl (Ev.ps 0) Ev.cint)) Ev.cint))) (Ev.tv (Ev.ix rfl (Ev.ps 0) Ev.cint)))) Ea.nil)) Ev.cint)) (Ess.cons (Es.st 5 scN (Ev.op Op2.mod (Ev.callT FnS.int rfl n_int boot_int (Ea.cons (Ev.nv (Ev.op (Op2.add rfl) (Ev.op Op2.mul (Ev.ps 4) (Ev.ps 4)) (Ev.op Op2.mul (Ev.tv (Ev.ix rfl (Ev.ps 0) Ev.cint)) Ev.cint))) Ea.nil)) Ev.cint)) (Ess.one (Es.ret (Ev.op Op2.mod (Ev.op Op2.div (Ev.op Op2.mod (Ev.callT FnS.int rfl n_int boot_int (Ea.cons (Ev.nv (Ev.op (Op2.add rfl) (Ev.op Op2.mul (Ev.ps 5) Ev.cint) (Ev.ps 4))) Ea.nil)) Ev.cint) Ev.cint) (Ev.ps 1)))))) Ess.nil) (Ess.one (Es.cset (Ev.pv 3) (Ev.ps 0) Ev.cint)))))) Ess.nil) (Ess.cons (Es.st 2 scN (Ev.op Op2.mod (Ev.callT FnS.int rfl n_int boot_int (Ea.cons (Ev.tv (Ev.ix rfl (Ev.ps 0) Ev.cint)) Ea.nil)) (Ev.ps 1))) (Ess.cons (Es.cset (Ev.op Op2.div (Ev.callT FnS.int rfl n_int boot_int (Ea.cons (Ev.tv (Ev.ix rfl (Ev.ps 0) Ev.cint)) Ea.nil)) (Ev.ps 1)) (Ev.ps 0) Ev.cint) (Ess.one (Es.ret (Ev.pv 2))))))
theorem sc_law_of : FnScope N_law_of ["_law_deal_here", "_law_items"] (defScope s_law_of) := ⟨rfl, rfl, rfl, by decide +kernel, rfl, by decide +kernel, by decide +kernel⟩
theorem ok_law_of (F : FnP T.K "_law_of" s_law_of fa fd) (c_law_pick : Cal T P w mg base 1 "_law_pick" 2 f_law_pick) (n_len : mg "len" = none) : FnG P w T.K mg base 2 fa fd ["_law_deal_here", "_law_items"] (spT T 2 f_law_of) := by
  refine fn_ok (N := N_law_of) (ps := ["_law_deal_here", "_law_items"]) (k := 1) (FnD_lk F) sc_law_of (by decide) fun cdv A outer s H E hr hgd => ?_
  have hun := hr.un
  have hu3 : (A.deeper (envOfC "_law_of" (defScope s_law_of) s.heap.objs.size fa cdv)).units + 3 < cLine := by omega
  have hu64 : (A.deeper (envOfC "_law_of" (defScope s_law_of) s.heap.objs.size fa cdv)).units + 64 < cLine := by omega
  have hu65 : (A.deeper (envOfC "_law_of" (defScope s_law_of) s.heap.objs.size fa cdv)).units + 65 < cLine := by omega
  have scN := sc_law_of.nd
  exact (Ess.one (Es.ret (Ev.ix rfl (Ev.ps 1) (Ev.fv (Ev.call c_law_pick ⟨rfl, rfl, rfl, rfl, rfl⟩ hr hgd (by decide) rfl (Ea.cons (Ev.pv 0) (Ea.cons (Ev.callBM (FnSM.len rfl) rfl n_len boot_len (Ea.cons (Ev.ps 1) Ea.nil)) Ea.nil)))))))
theorem sc_law_ordinary : FnScope N_law_ordinary ["_law_deal_here"] (defScope s_law_ordinary) := ⟨rfl, rfl, rfl, by decide +kernel, rfl, by decide +kernel, by decide +kernel⟩
theorem ok_law_ordinary (F : FnP T.K "_law_ordinary" s_law_ordinary fa fd) (c_law_pick : Cal T P w mg base 1 "_law_pick" 2 f_law_pick) (c_law_of : Cal T P w mg base 2 "_law_of" 2 f_law_of) (n_range : mg "range" = none) : FnG P w T.K mg base 3 fa fd ["_law_deal_here"] (spT T 1 f_law_ordinary) := by
  refine fn_ok (N := N_law_ordinary) (ps := ["_law_deal_here"]) (k := 2) (FnD_lk F) sc_law_ordinary (by decide) fun cdv A outer s H E hr hgd => ?_
  have hun := hr.un
  have hu3 : (A.deeper (envOfC "_law_ordinary" (defScope s_law_ordinary) s.heap.objs.size fa cdv)).units + 3 < cLine := by omega
  have hu64 : (A.deeper (envOfC "_law_ordinary" (defScope s_law_ordinary) s.heap.objs.size fa cdv)).units + 64 < cLine := by omega
  have hu65 : (A.deeper (envOfC "_law_ordinary" (defScope s_law_ordinary) s.heap.objs.size fa cdv)).units + 65 < cLine := by omega
  have scN := sc_law_ordinary.nd
  exact (Ess.one (Es.ret (Ev.join rfl (Ev.cstr (x := [])) (Ea.cons (Ev.nv (Ev.lc rfl rfl scN (own := [("_law_k", 1)]) (g := (.nm 1)) (Ei.rng1 (Ea.cons (Ev.fv (Ev.call c_law_pick ⟨rfl, rfl, rfl, rfl, rfl⟩ hr hgd (by decide) rfl (Ea.cons (Ev.pv 0) (Ea.cons Ev.cint Ea.nil)))) Ea.nil) rfl n_range) (L2.blkOk_by (by rfl)) (by decide) (fun _ _ _ _ _ => pgn 1 scN) (fun _ _ _ _ _ => Ets.nil) (fun _ _ _ _ _ => (Ev.ft (Ev.call c_law_of ⟨rfl, rfl, rfl, rfl, rfl⟩ hr hgd (by decide) rfl (Ea.cons (Ev.pv 0) (Ea.cons (Ev.cstr (x := [97, 97, 98, 46, 49, 57, 95])) Ea.nil))))))) Ea.nil))))
theorem sc_law_all_slips : FnScope N_law_all_slips ["_law_word", "_law_signs"] (defScope s_law_all_slips) := ⟨rfl, rfl, rfl, by decide +kernel, rfl, by decide +kernel, by decide +kernel⟩
theorem ok_law_all_slips (F : FnP T.K "_law_all_slips" s_law_all_slips fa fd) (n_len : mg "len" = none) (n_range : mg "range" = none) (n_set : mg "set" = none) (n_sorted : mg "sorted" = none) : FnG P w T.K mg base 1 fa fd ["_law_word", "_law_signs"] (spT T 2 f_law_all_slips) := by
  refine fn_ok (N := N_law_all_slips) (ps := ["_law_word", "_law_signs"]) (k := 0) (FnD_lk F) sc_law_all_slips (by decide) fun cdv A outer s H E hr hgd => ?_
  have hun := hr.un
  have hu3 : (A.deeper (envOfC "_law_all_slips" (defScope s_law_all_slips) s.heap.objs.size fa cdv)).units + 3 < cLine := by omega
  have hu64 : (A.deeper (envOfC "_law_all_slips" (defScope s_law_all_slips) s.heap.objs.size fa cdv)).units + 64 < cLine := by omega
  have hu65 : (A.deeper (envOfC "_law_all_slips" (defScope s_law_all_slips) s.heap.objs.size fa cdv)).units + 65 < cLine := by omega
  have scN := sc_law_all_slips.nd
  exact (Ess.cons (Es.st 2 scN (Ev.nt (Ev.lst Ea.nil))) (Ess.cons (Es.forS (g := (.nm 3)) (Ei.rng1 (Ea.cons (Ev.nv (Ev.op (Op2.add rfl) (Ev.callB (FnS.len rfl) rfl n_len boot_len (Ea.cons (Ev.ps 0) Ea.nil)) Ev.cint)) Ea.nil) rfl n_range) (pgn 3 scN) (Ess.cons (Es.st 2 scN (Ev.nt (Ev.op (Op2.add rfl) (Ev.ps 2) (Ev.nv (Ev.lc rfl rfl scN (own := [("_law_sign", 4)]) (g := (.nm 4)) (Ei.seq rfl (Ev.pv 1)) (L2.blkOk_by (by rfl)) (by decide) (fun _ _ _ _ _ => pgn 4 scN) (fun _ _ _ _ _ => Ets.nil) (fun _ _ _ _ _ => (Ev.nt (Ev.op (Op2.add rfl) (Ev.nv (Ev.op (Op2.add rfl) (Ev.nv (Ev.sl rfl (Ev.ps 0) Eo.no (Eo.at (Ev.ps 3)))) (Ev.ps 4))) (Ev.nv (Ev.sl rfl (Ev.ps 0) (Eo.at (Ev.ps 3)) Eo.no)))))))))) (Ess.cons (Es.ite (Et.cmp Op2.lt (Ev.ps 3) (Ev.callB (FnS.len rfl) rfl n_len boot_len (Ea.cons (Ev.ps 0) Ea.nil))) (Ess.cons (Es.st 2 scN (Ev.nt (Ev.op (Op2.add rfl) (Ev.ps 2) (Ev.nv (Ev.lst (Ea.cons (Ev.nt (Ev.op (Op2.add rfl) (Ev.nv (Ev.sl rfl (Ev.ps 0) Eo.no (Eo.at (Ev.ps 3)))) (Ev.nv (Ev.sl rfl (Ev.ps 0) (Eo.at (Ev.nv (Ev.op (Op2.add rfl) (Ev.ps 3) Ev.cint))) Eo.no)))) Ea.nil)))))) (Ess.one (Es.st 2 scN (Ev.nt (Ev.op (Op2.add rfl) (Ev.ps 2) (Ev.nv (Ev.lc rfl rfl scN (own := [("_law_sign", 4)]) (g := (.nm 4)) (Ei.seq rfl (Ev.pv 1)) (L2.blkOk_by (by rfl)) (by decide) (fun _ _ _ _ _ => pgn 4 scN) (fun _ _ _ _ _ => (Ets.one (Et.cmp (Op2.ne rfl hu64) (Ev.ps 4) (Ev.tv (Ev.ix rfl (Ev.ps 0) (Ev.ps 3)))))) (fun _ _ _ _ _ => (Ev.nt (Ev.op (Op2.add rfl) (Ev.nv (Ev.op (Op2.add rfl) (Ev.nv (Ev.sl rfl (Ev.ps 0) Eo.no (Eo.at (Ev.ps 3)))) (Ev.ps 4))) (Ev.nv (Ev.sl rfl (Ev.ps 0) (Eo.at (Ev.nv (Ev.op (Op2.add rfl) (Ev.ps 3) Ev.cint))) Eo.no)))))))))))) Ess.nil) (Ess.one (Es.ite (Ew.et (Ew.and (Et.cmp Op2.lt (Ev.nv (Ev.op (Op2.add rfl) (Ev.ps 3) Ev.cint)) (Ev.callB (FnS.len rfl) rfl n_len boot_len (Ea.cons (Ev.ps 0) Ea.nil))) (Ew.and1 (Et.cmp (Op2.ne rfl hu64) (Ev.tv (Ev.ix rfl (Ev.ps 0) (Ev.ps 3))) (Ev.tv (Ev.ix rfl (Ev.ps 0) (Ev.nv (Ev.op (Op2.add rfl) (Ev.ps 3) Ev.cint)))))))) (Ess.one (Es.st 2 scN (Ev.nt (Ev.op (Op2.add rfl) (Ev.ps 2) (Ev.nv (Ev.lst (Ea.cons (Ev.nt (Ev.op (Op2.add rfl) (Ev.nv (Ev.op (Op2.add rfl) (Ev.nv (Ev.op (Op2.add rfl) (Ev.nv (Ev.sl rfl (Ev.ps 0) Eo.no (Eo.at (Ev.ps 3)))) (Ev.tv (Ev.ix rfl (Ev.ps 0) (Ev.nv (Ev.op (Op2.add rfl) (Ev.ps 3) Ev.cint)))))) (Ev.tv (Ev.ix rfl (Ev.ps 0) (Ev.ps 3))))) (Ev.nv (Ev.sl rfl (Ev.ps 0) (Eo.at (Ev.nv (Ev.op (Op2.add rfl) (Ev.ps 3) Ev.cint))) Eo.no)))) Ea.nil))))))) Ess.nil)))) (L2.passes_of rfl) rfl) (Ess.one (Es.retF (Ev.sortedSet rfl rfl hu3 rfl n_sorted rfl n_set (Ev.ps 2))))))
theorem sc_is_left_out : FnScope N_is_left_out ["short", "long"] (defScope s_is_left_out) := ⟨rfl, rfl, rfl, by decide +kernel, rfl, by decide +kernel, by decide +kernel⟩
theorem ok_is_left_out (F : FnP T.K "is_left_out" s_is_left_out fa fd) (n_any : mg "any" = none) (n_len : mg "len" = none) (n_range : mg "range" = none) : FnG P w T.K mg base 1 fa fd ["short", "long"] (spT T 2 f_is_left_out) := by
  refine fn_ok (N := N_is_left_out) (ps := ["short", "long"]) (k := 0) (FnD_lk F) sc_is_left_out (by decide) fun cdv A outer s H E hr hgd => ?_
  have hun := hr.un
  have hu3 : (A.deeper (envOfC "is_left_out" (defScope s_is_left_out) s.heap.objs.size fa cdv)).units + 3 < cLine := by omega
  have hu64 : (A.deeper (envOfC "is_left_out" (defScope s_is_left_out) s.heap.objs.size fa cdv)).units + 64 < cLine := by omega
  have hu65 : (A.deeper (envOfC "is_left_out" (defScope s_is_left_out) s.heap.objs.size fa cdv)).units + 65 < cLine := by omega
  have scN := sc_is_left_out.nd
  exact (Ess.one (Es.ret (Ev.callB (FnS.any rfl rfl) rfl n_any boot_any (Ea.cons (Ev.nv (Ev.lc rfl rfl scN (own := [("at", 2)]) (g := (.nm 2)) (Ei.rng1 (Ea.cons (Ev.callB (FnS.len rfl) rfl n_len boot_len (Ea.cons (Ev.ps 1) Ea.nil)) Ea.nil) rfl n_range) (L2.blkOk_by (by rfl)) (by decide) (fun _ _ _ _ _ => pgn 2 scN) (fun _ _ _ _ _ => Ets.nil) (fun _ _ _ _ _ => (Ev.cmp (Op2.eq rfl hu64) (Ev.nv (Ev.op (Op2.add rfl) (Ev.nv (Ev.sl rfl (Ev.ps 1) Eo.no (Eo.at (Ev.ps 2)))) (Ev.nv (Ev.sl rfl (Ev.ps 1) (Eo.at (Ev.nv (Ev.op (Op2.add rfl) (Ev.ps 2) Ev.cint))) Eo.no)))) (Ev.ps 0))))) Ea.nil))))
theorem sc_is_slip : FnScope N_is_slip ["one", "other"] (defScope s_is_slip) := ⟨rfl, rfl, rfl, by decide +kernel, rfl, by decide +kernel, by decide +kernel⟩
theorem ok_is_slip (F : FnP T.K "is_slip" s_is_slip fa fd) (c_is_left_out : Cal T P w mg base 1 "is_left_out" 2 f_is_left_out) (n_len : mg "len" = none) (n_range : mg "range" = none) : FnG P w T.K mg base 2 fa fd ["one", "other"] (spT T 2 f_is_slip) := by
  refine fn_ok (N := N_is_slip) (ps := ["one", "other"]) (k := 1) (FnD_lk F) sc_is_slip (by decide) fun cdv A outer s H E hr hgd => ?_
  have hun := hr.un
  have hu3 : (A.deeper (envOfC "is_slip" (defScope s_is_slip) s.heap.objs.size fa cdv)).units + 3 < cLine := by omega
  have hu64 : (A.deeper (envOfC "is_slip" (defScope s_is_slip) s.heap.objs.size fa cdv)).units + 64 < cLine := by omega
  have hu65 : (A.deeper (envOfC "is_slip" (defScope s_is_slip) s.heap.objs.size fa cdv)).units + 65 < cLine := by omega
  have scN := sc_is_slip.nd
  exact (Ess.cons (Es.ite (Et.cmp (Op2.eq rfl hu64) (Ev.callB (FnS.len rfl) rfl n_len boot_len (Ea.cons (Ev.ps 0) Ea.nil)) (Ev.nv (Ev.op (Op2.add rfl) (Ev.callB (FnS.len rfl) rfl n_len boot_len (Ea.cons (Ev.ps 1) Ea.nil)) Ev.cint))) (Ess.one (Es.ret (Ev.ft (Ev.call c_is_left_out ⟨rfl, rfl, rfl, rfl, rfl⟩ hr hgd (by decide) rfl (Ea.cons (Ev.pv 1) (Ea.cons (Ev.pv 0) Ea.nil)))))) Ess.nil) (Ess.cons (Es.ite (Et.cmp (Op2.eq rfl hu64) (Ev.callB (FnS.len rfl) rfl n_len boot_len (Ea.cons (Ev.ps 1) Ea.nil)) (Ev.nv (Ev.op (Op2.add rfl) (Ev.callB (FnS.len rfl) rfl n_len boot_len (Ea.cons (Ev.ps 0) Ea.nil)) Ev.cint))) (Ess.one (Es.ret (Ev.ft (Ev.call c_is_left_out ⟨rfl, rfl, rfl, rfl, rfl⟩ hr hgd (by decide) rfl (Ea.cons (Ev.pv 0) (Ea.cons (Ev.pv 1) Ea.nil)))))) Ess.nil) (Ess.cons (Es.ite (Et.cmp (Op2.ne rfl hu64) (Ev.callB (FnS.len rfl) rfl n_len boot_len (Ea.cons (Ev.ps 0) Ea.nil)) (Ev.callB (FnS.len rfl) rfl n_len boot_len (Ea.cons (Ev.ps 1) Ea.nil))) (Ess.one (Es.ret Ev.cbl)) Ess.nil) (Ess.cons (Es.lcn 2 rfl rfl scN (own := [("at", 5)]) (g := (.nm 5)) (Ei.rng1 (Ea.cons (Ev.callB (FnS.len rfl) rfl n_len boot_len (Ea.cons (Ev.ps 0) Ea.nil)) Ea.nil) rfl n_range) (L2.blkOk_by (by rfl)) (by decide) (fun _ _ _ _ _ => pgn 5 scN) (fun _ _ _ _ _ => (Ets.one (Et.cmp (Op2.ne rfl hu64) (Ev.tv (Ev.ix rfl (Ev.ps 0) (Ev.ps 5))) (Ev.tv (Ev.ix rfl (Ev.ps 1) (Ev.ps 5)))))) (fun _ _ _ _ _ => (Ev.pv 5))) (Ess.freeze (Ess.cons (Es.ite (Et.cmp (Op2.ne rfl hu64) (Ev.callB (FnS.len rfl) rfl n_len boot_len (Ea.cons (Ev.ps 2) Ea.nil)) Ev.cint) (Ess.one (Es.ret (Ev.cmp (Op2.eq rfl hu64) (Ev.callB (FnS.len rfl) rfl n_len boot_len (Ea.cons (Ev.ps 2) Ea.nil)) Ev.cint))) Ess.nil) (Ess.cons (Es.unp (l := [3, 4]) rfl rfl (Ev.ps 2) (L2.pgs_cons (pgn 3 scN) (L2.pgs_cons (pgn 4 scN) L2.pgs_nil))) (Ess.one (Es.ret (Ev.and (Ev.cmp (Op2.eq rfl hu64) (Ev.ps 4) (Ev.nv (Ev.op (Op2.add rfl) (Ev.ps 3) Ev.cint))) (Ev.and (Ev.cmp (Op2.eq rfl hu64) (Ev.tv (Ev.ix rfl (Ev.ps 0) (Ev.ps 3))) (Ev.tv (Ev.ix rfl (Ev.ps 1) (Ev.ps 4)))) (Ev.one (Ev.cmp (Op2.eq rfl hu64) (Ev.tv (Ev.ix rfl (Ev.ps 0) (Ev.ps 4))) (Ev.tv (Ev.ix rfl (Ev.ps 1) (Ev.ps 3))))))))))))))))
theorem sc_near : FnScope N_near ["keys", "text"] (defScope s_near) := ⟨rfl, rfl, rfl, by decide +kernel, rfl, by decide +kernel, by decide +kernel⟩
theorem ok_near (F : FnP T.K "near" s_near fa fd) (c_is_slip : Cal T P w mg base 2 "is_slip" 2 f_is_slip) (n_sorted : mg "sorted" = none) : FnG P w T.K mg base 3 fa fd ["keys", "text"] (spT T 2 f_near) := by
  refine fn_ok (N := N_near) (ps := ["keys", "text"]) (k := 2) (FnD_lk F) sc_near (by decide) fun cdv A outer s H E hr hgd => ?_
  have hun := hr.un
  have hu3 : (A.deeper (envOfC "near" (defScope s_near) s.heap.objs.size fa cdv)).units + 3 < cLine := by omega
  have hu64 : (A.deeper (envOfC "near" (defScope s_near) s.heap.objs.size fa cdv)).units + 64 < cLine := by omega
  have hu65 : (A.deeper (envOfC "near" (defScope s_near) s.heap.objs.size fa cdv)).units + 65 < cLine := by omega
  have scN := sc_near.nd
  exact (Ess.one (Es.retF (Ev.sortedComp rfl rfl hu3 scN rfl n_sorted (own := [("key", 2)]) (g := (.nm 2)) (Ei.seq rfl (Ev.pv 0)) (L2.blkOk_by (by rfl)) (by decide) (fun _ _ _ _ _ => pgn 2 scN) (fun _ _ _ _ _ => (Ets.one (Et.val (Ev.ft (Ev.call c_is_slip ⟨rfl, rfl, rfl, rfl, rfl⟩ hr hgd (by decide) rfl (Ea.cons (Ev.pv 2) (Ea.cons (Ev.pv 1) Ea.nil))))))) (fun _ _ _ _ _ => (Ev.pv 2)))))
theorem sc_surely : FnScope N_surely ["keys", "text"] (defScope s_surely) := ⟨rfl, rfl, rfl, by decide +kernel, rfl, by decide +kernel, by decide +kernel⟩
theorem ok_surely (F : FnP T.K "surely" s_surely fa fd) (c_near : Cal T P w mg base 3 "near" 2 f_near) (n_len : mg "len" = none) : FnG P w T.K mg base 4 fa fd ["keys", "text"] (spT T 2 f_surely) := by
  refine fn_ok (N := N_surely) (ps := ["keys", "text"]) (k := 3) (FnD_lk F) sc_surely (by decide) fun cdv A outer s H E hr hgd => ?_
  have hun := hr.un
  have hu3 : (A.deeper (envOfC "surely" (defScope s_surely) s.heap.objs.size fa cdv)).units + 3 < cLine := by omega
  have hu64 : (A.deeper (envOfC "surely" (defScope s_surely) s.heap.objs.size fa cdv)).units + 64 < cLine := by omega
  have hu65 : (A.deeper (envOfC "surely" (defScope s_surely) s.heap.objs.size fa cdv)).units + 65 < cLine := by omega
  have scN := sc_surely.nd
  exact (Ess.cons (Es.ite (Et.cmp (Op2.in rfl hu65) (Ev.ps 1) (Ev.ps 0)) (Ess.one (Es.ret (Ev.pv 1))) Ess.nil) (Ess.cons (Es.st 2 scN (Ev.ft (Ev.call c_near ⟨rfl, rfl, rfl, rfl, rfl⟩ hr hgd (by decide) rfl (Ea.cons (Ev.pv 0) (Ea.cons (Ev.pv 1) Ea.nil))))) (Ess.one (Es.ret (Ev.ife (Et.cmp (Op2.eq rfl hu64) (Ev.callB (FnS.len rfl) rfl n_len boot_len (Ea.cons (Ev.ps 2) Ea.nil)) Ev.cint) (Ev.ix rfl (Ev.ps 2) Ev.cint) Ev.cnon)))))
theorem sc_law_same : FnScope N_law_same ["_law_found", "_law_due"] (defScope s_law_same) := ⟨rfl, rfl, rfl, by decide +kernel, rfl, by decide +kernel, by decide +kernel⟩
theorem ok_law_same (F : FnP T.K "_law_same" s_law_same fa fd) (n_repr : mg "repr" = none) : FnG P w T.K mg base 1 fa fd ["_law_found", "_law_due"] (spT T 2 f_law_same) := by
  refine fn_ok (N := N_law_same) (ps := ["_law_found", "_law_due"]) (k := 0) (FnD_lk F) sc_law_same (by decide) fun cdv A outer s H E hr hgd => ?_
  have hun := hr.un
  have hu3 : (A.deeper (envOfC "_law_same" (defScope s_law_same) s.heap.objs.size fa cdv)).units + 3 < cLine := by omega
  have hu64 : (A.deeper (envOfC "_law_same" (defScope s_law_same) s.heap.objs.size fa cdv)).units + 64 < cLine := by omega
  have hu65 : (A.deeper (envOfC "_law_same" (defScope s_law_same) s.heap.objs.size fa cdv)).units + 65 < cLine := by omega
  have scN := sc_law_same.nd
  exact (Ess.one (Es.ret (Ev.and (Ev.cmpM (Op2M.eq rfl hu64) (Ev.ps 0) (Ev.ps 1)) (Ev.one (Ev.cmpM (Op2M.eq rfl hu64) (Ev.callBM (FnSM.repr rfl hgd hu65) rfl n_repr boot_repr (Ea.cons (Ev.ps 0) Ea.nil)) (Ev.callBM (FnSM.repr rfl hgd hu65) rfl n_repr boot_repr (Ea.cons (Ev.ps 1) Ea.nil)))))))
theorem sc_law : FnScope N_law ["_law_script"] (defScope s_law) := ⟨rfl, rfl, rfl, by decide +kernel, rfl, by decide +kernel, by decide +kernel⟩
theorem ok_law (F : FnP T.K "law" s_law fa fd) (c_law_deal : Cal T P w mg base 1 "_law_deal" 1 f_law_deal) (c_law_ordinary : Cal T P w mg base 3 "_law_ordinary" 1 f_law_ordinary) (c_law_pick : Cal T P w mg base 1 "_law_pick" 2 f_law_pick) (c_law_of : Cal T P w mg base 2 "_law_of" 2 f_law_of) (c_law_all_slips : Cal T P w mg base 1 "_law_all_slips" 2 f_law_all_slips) (c_surely : Cal T P w mg base 4 "surely" 2 f_surely) (c_near : Cal T P w mg base 3 "near" 2 f_near) (c_law_same : Cal T P w mg base 1 "_law_same" 2 f_law_same) (k_surely_text_keys : CalK T P w mg base 4 "surely" 2 f_surely 0 ["text", "keys"] [1, 0]) (k_near_text_keys : CalK T P w mg base 3 "near" 2 f_near 0 ["text", "keys"] [1, 0]) (n_len : mg "len" = none) (n_list : mg "list" = none) (n_range : mg "range" = none) (n_set : mg "set" = none) (n_sorted : mg "sorted" = none) (n_tuple : mg "tuple" = none) : FnG P w T.K mg base 5 fa fd ["_law_script"] (spT T 1 f_law) := by
  refine fn_ok (N := N_law) (ps := ["_law_script"]) (k := 4) (FnD_lk F) sc_law (by decide) fun cdv A outer s H E hr hgd => ?_
  have hun := hr.un
  have hu3 : (A.deeper (envOfC "law" (defScope s_law) s.heap.objs.size fa cdv)).units + 3 < cLine := by omega
  have hu64 : (A.deeper (envOfC "law" (defScope s_law) s.heap.objs.size fa cdv)).units + 64 < cLine := by omega
  have hu65 : (A.deeper (envOfC "law" (defScope s_law) s.heap.objs.size fa cdv)).units + 65 < cLine := by omega
  have scN := sc_law.nd
  exact (Ess.cons (Es.nw 1 scN (Ev.callN c_law_deal ⟨rfl, rfl, rfl, rfl, rfl⟩ hr hgd (by decide) rfl (Ea.cons (Ev.pv 0) Ea.nil))) (Ess.pub (Ess.cons (Es.forS (g := (.nm 2)) (Ei.rng1 (Ea.cons Ev.cint Ea.nil) rfl n_range) (pgn 2 scN) (Ess.cons (Es.st 3 scN (Ev.ft (Ev.call c_law_ordinary ⟨rfl, rfl, rfl, rfl, rfl⟩ hr hgd (by decide) rfl (Ea.cons (Ev.pv 1) Ea.nil)))) (Ess.cons (Es.st 4 scN (Ev.pub (Ev.lst (Ea.cons (Ev.pv 3) Ea.nil)))) (Ess.cons (Es.forS (g := (.nm 5)) (Ei.rng1 (Ea.cons (Ev.fv (Ev.call c_law_pick ⟨rfl, rfl, rfl, rfl, rfl⟩ hr hgd (by decide) rfl (Ea.cons (Ev.pv 1) (Ea.cons Ev.cint Ea.nil)))) Ea.nil) rfl n_range) (pgn 5 scN) (Ess.one (Es.capp (Ev.ps 4) (Ev.ft (Ev.call c_law_of ⟨rfl, rfl, rfl, rfl, rfl⟩ hr hgd (by decide) rfl (Ea.cons (Ev.pv 1) (Ea.cons (Ev.nt (Ev.op (Op2.add rfl) (Ev.fv (Ev.call c_law_all_slips ⟨rfl, rfl, rfl, rfl, rfl⟩ hr hgd (by decide) rfl (Ea.cons (Ev.ft (Ev.call c_law_of ⟨rfl, rfl, rfl, rfl, rfl⟩ hr hgd (by decide) rfl (Ea.cons (Ev.pv 1) (Ea.cons (Ev.pv 4) Ea.nil)))) (Ea.cons (Ev.nt (Ev.lst (Ea.cons (Ev.cstr (x := [97])) (Ea.cons (Ev.cstr (x := [57])) Ea.nil)))) Ea.nil)))) (Ev.nv (Ev.lst (Ea.cons (Ev.pv 3) Ea.nil))))) Ea.nil)))))) (L2.passes_of rfl) rfl) (Ess.cons (Es.st 4 scN (Ev.nt (Ev.slM rfl (Ev.ps 4) (Eo.at (Ev.fv (Ev.call c_law_pick ⟨rfl, rfl, rfl, rfl, rfl⟩ hr hgd (by decide) rfl (Ea.cons (Ev.pv 1) (Ea.cons Ev.cint Ea.nil))))) Eo.no))) (Ess.cons (Es.st 6 scN (Ev.ft (Ev.call c_law_of ⟨rfl, rfl, rfl, rfl, rfl⟩ hr hgd (by decide) rfl (Ea.cons (Ev.pv 1) (Ea.cons (Ev.nt (Ev.op (Op2.add rfl) (Ev.nv (Ev.op (Op2.add rfl) (Ev.nv (Ev.lst (Ea.cons (Ev.pv 3) Ea.nil))) (Ev.ps 4))) (Ev.fv (Ev.call c_law_all_slips ⟨rfl, rfl, rfl, rfl, rfl⟩ hr hgd (by decide) rfl (Ea.cons (Ev.pv 3) (Ea.cons (Ev.nt (Ev.lst (Ea.cons (Ev.cstr (x := [98])) Ea.nil))) Ea.nil)))))) Ea.nil))))) (Ess.cons (Es.st 7 scN (Ev.nt (Ev.sortedSet rfl rfl hu3 rfl n_sorted rfl n_set (Ev.nv (Ev.lc rfl rfl scN (own := [("_law_key", 11)]) (g := (.nm 11)) (Ei.seq rfl (Ev.pv 4)) (L2.blkOk_by (by rfl)) (by decide) (fun _ _ _ _ _ => pgn 11 scN) (fun _ _ _ _ _ => (Ets.one (Et.cmp (Op2.in rfl hu65) (Ev.ps 11) (Ev.fv (Ev.call c_law_all_slips ⟨rfl, rfl, rfl, rfl, rfl⟩ hr hgd (by decide) rfl (Ea.cons (Ev.pv 6) (Ea.cons (Ev.nt (Ev.sortedSet rfl rfl hu3 rfl n_sorted rfl n_set (Ev.nv (Ev.callT (FnS.list rfl rfl) rfl n_list boot_list (Ea.cons (Ev.ps 11) Ea.nil))))) Ea.nil))))))) (fun _ _ _ _ _ => (Ev.pv 11))))))) (Ess.cons (Es.st 8 scN (Ev.ife (Et.cmp (Op2.in rfl hu65) (Ev.ps 6) (Ev.ps 4)) (Ev.pv 6) (Ev.ife (Et.cmpM (Op2M.eq rfl hu64) (Ev.callBM (FnSM.len rfl) rfl n_len boot_len (Ea.cons (Ev.ps 7) Ea.nil)) Ev.cint) (Ev.ix rfl (Ev.ps 7) Ev.cint) Ev.cnon))) (Ess.cons (Es.st 9 scN (Ev.nt (Ev.callT (FnS.list rfl rfl) rfl n_list boot_list (Ea.cons (Ev.ps 4) Ea.nil)))) (Ess.cons (Es.st 10 scN (Ev.nt (Ev.lst (Ea.cons (Ev.pub (Ev.callN c_near ⟨rfl, rfl, rfl, rfl, rfl⟩ hr hgd (by decide) rfl (Ea.cons (Ev.pv 9) (Ea.cons (Ev.pv 6) Ea.nil)))) (Ea.cons (Ev.ft (Ev.callK0 k_near_text_keys ⟨rfl, rfl, rfl, rfl, rfl⟩ hr hgd (by decide) rfl (Ek.cons (Ev.pv 6) (Ek.cons (Ev.callT (FnS.tuple rfl) rfl n_tuple boot_tuple (Ea.cons (Ev.ps 4) Ea.nil)) Ek.nil)) rfl (hlen := klen2))) (Ea.cons (Ev.ft (Ev.call c_surely ⟨rfl, rfl, rfl, rfl, rfl⟩ hr hgd (by decide) rfl (Ea.cons (Ev.pv 9) (Ea.cons (Ev.pv 6) Ea.nil)))) (Ea.cons (Ev.ft (Ev.callK0 k_surely_text_keys ⟨rfl, rfl, rfl, rfl, rfl⟩ hr hgd (by decide) rfl (Ek.cons (Ev.pv 6) (Ek.cons (Ev.pv 4) Ek.nil)) rfl (hlen := klen2))) Ea.nil))))))) (Ess.cons (Es.ite (Ew.et (Ew.or (Et.not (Et.val (Ev.ft (Ev.call c_law_same ⟨rfl, rfl, rfl, rfl, rfl⟩ hr hgd (by decide) rfl (Ea.cons (Ev.pv 10) (Ea.cons (Ev.nt (Ev.lst (Ea.cons (Ev.pv 7) (Ea.cons (Ev.pv 7) (Ea.cons (Ev.pv 8) (Ea.cons (Ev.pv 8) Ea.nil)))))) Ea.nil)))))) (Ew.or1 (Et.cmpM (Op2M.ne rfl hu64) (Ev.ps 9) (Ev.ps 4))))) (Ess.one (Es.ret Ev.cbl)) Ess.nil) (Ess.cons (Es.capp (Ev.tv (Ev.ix rfl (Ev.ps 10) Ev.cint)) (Ev.cstr (x := [113]))) (Ess.one (Es.ite (Et.not (Et.val (Ev.ft (Ev.call c_law_same ⟨rfl, rfl, rfl, rfl, rfl⟩ hr hgd (by decide) rfl (Ea.cons (Ev.ft (Ev.call c_near ⟨rfl, rfl, rfl, rfl, rfl⟩ hr hgd (by decide) rfl (Ea.cons (Ev.pv 4) (Ea.cons (Ev.pv 6) Ea.nil)))) (Ea.cons (Ev.pv 7) Ea.nil)))))) (Ess.one (Es.ret Ev.cbl)) Ess.nil))))))))))))) (L2.passes_of rfl) rfl) (Ess.one (Es.ret (Ev.ft (Ev.call c_law_same ⟨rfl, rfl, rfl, rfl, rfl⟩ hr hgd (by decide) rfl (Ea.cons (Ev.nt (Ev.lst (Ea.cons (Ev.ft (Ev.call c_near ⟨rfl, rfl, rfl, rfl, rfl⟩ hr hgd (by decide) rfl (Ea.cons (Ev.nt (Ev.lst Ea.nil)) (Ea.cons (Ev.cstr (x := [97])) Ea.nil)))) (Ea.cons (Ev.ft (Ev.call c_surely ⟨rfl, rfl, rfl, rfl, rfl⟩ hr hgd (by decide) rfl (Ea.cons (Ev.nt (Ev.lst Ea.nil)) (Ea.cons (Ev.cstr (x := [97])) Ea.nil)))) (Ea.cons (Ev.ft (Ev.call c_surely ⟨rfl, rfl, rfl, rfl, rfl⟩ hr hgd (by decide) rfl (Ea.cons (Ev.nt (Ev.lst (Ea.cons (Ev.cstr (x := [97, 98])) (Ea.cons (Ev.cstr (x := [97, 99])) Ea.nil)))) (Ea.cons (Ev.cstr (x := [97])) Ea.nil)))) (Ea.cons (Ev.ft (Ev.call c_surely ⟨rfl, rfl, rfl, rfl, rfl⟩ hr hgd (by decide) rfl (Ea.cons (Ev.nt (Ev.lst (Ea.cons (Ev.cstr (x := [97, 98])) (Ea.cons (Ev.cstr (x := [97, 98])) Ea.nil)))) (Ea.cons (Ev.cstr (x := [97])) Ea.nil)))) Ea.nil)))))) (Ea.cons (Ev.nt (Ev.lst (Ea.cons (Ev.nt (Ev.lst Ea.nil)) (Ea.cons Ev.cnon (Ea.cons Ev.cnon (Ea.cons (Ev.cstr (x := [97, 98])) Ea.nil)))))) Ea.nil)))))))))
end
end Wk
set_option Elab.async false
set_option linter.all false
set_option maxRecDepth 100000
set_option maxHeartbeats 0
namespace Wk
open PySem PySem.Spec
open PyProof.Rows hiding St
open L2 (V HO Hp Cx Inv VK XK Vals FunD FnScope defArgs defBody defScope cxOf)
open TL
def d_law_deal : He.DefD := ⟨("_law_deal", none), "_law_deal", "_law_deal", defArgs s_law_deal, defBody s_law_deal, defScope s_law_deal, [], []⟩
def d_law_pick : He.DefD := ⟨("_law_pick", none), "_law_pick", "_law_pick", defArgs s_law_pick, defBody s_law_pick, defScope s_law_pick, [], []⟩
def d_law_of : He.DefD := ⟨("_law_of", none), "_law_of", "_law_of", defArgs s_law_of, defBody s_law_of, defScope s_law_of, [], []⟩
def d_law_ordinary : He.DefD := ⟨("_law_ordinary", none), "_law_ordinary", "_law_ordinary", defArgs s_law_ordinary, defBody s_law_ordinary, defScope s_law_ordinary, [], []⟩
def d_law_all_slips : He.DefD := ⟨("_law_all_slips", none), "_law_all_slips", "_law_all_slips", defArgs s_law_all_slips, defBody s_law_all_slips, defScope s_law_all_slips, [], []⟩
def d_is_left_out : He.DefD := ⟨("is_left_out", none), "is_left_out", "is_left_out", defArgs s_is_left_out, defBody s_is_left_out, defScope s_is_left_out, [], []⟩
def d_is_slip : He.DefD := ⟨("is_slip", none), "is_slip", "is_slip", defArgs s_is_slip, defBody s_is_slip, defScope s_is_slip, [], []⟩
def d_near : He.DefD := ⟨("near", none), "near", "near", defArgs s_near, defBody s_near, defScope s_near, [], []⟩
def d_surely : He.DefD := ⟨("surely", none), "surely", "surely", defArgs s_surely, defBody s_surely, defScope s_surely, [], []⟩
def d_law_same : He.DefD := ⟨("_law_same", none), "_law_same", "_law_same", defArgs s_law_same, defBody s_law_same, defScope s_law_same, [], []⟩
def d_law : He.DefD := ⟨("law", none), "law", "law", defArgs s_law, defBody s_law, defScope s_law, [], []⟩
def fn : List He.DefD := [d_law_deal, d_law_pick, d_law_of, d_law_ordinary, d_law_all_slips, d_is_left_out, d_is_slip, d_near, d_surely, d_law_same, d_law]
def fa : List He.Fa := [.glo "_law_deal", .glo "_law_pick", .glo "_law_of", .glo "_law_ordinary", .glo "_law_all_slips", .glo "is_left_out", .glo "is_slip", .glo "near", .glo "surely", .glo "_law_same", .glo "law", .free "any", .free "int", .free "len", .free "list", .free "range", .free "repr", .free "set", .free "sorted", .free "tuple"]
def names0 : List PySem.Str := ["__name__", "is_left_out", "is_slip", "near", "surely", "_law_deal", "_law_pick", "_law_of", "_law_same", "_law_ordinary", "_law_all_slips"]
def names : List PySem.Str := names0
abbrev R : PySem.W.OpenRow := PySem.W.OpenLaw.row PySem.Challenge.rw_rivalkeys_k56_keys_that_are_near
abbrev hk : PySem.W.Hook := He.hookD 4 fa fn
def ob (s : PySem.W.SharedT) : He.AlD := He.obsDG 4 fa fn (HandSHeadRun.getT s)
theorem ob_eq (s : PySem.W.SharedT) : ob s = hk.obs s.abs := He.obsDG_eq (HandSHeadRun.getT_eq s)
theorem run (w : World) : HandSHeadRun.RunEq R (PySem.W.view R.prog [12]) hk ob 20000 names w := by
  intro os
  kernel_rfl
theorem facts {P : Program} {w : World} {K : PySem.W.Frag} {h : Heap} {mg : Str → Option Value} {f : Addr} (X : K.In h) (G : h.Ns mainGlobals mg) (hfa : mg ("law" : Str) = some (.ref f)) (c : He.SaysD fa fn K) :
    ∃ (T : Tab) (fd : FuncData) (df : DF), T.K.In h ∧ (∀ (s : Shared) (u : Value), BindsTo s fd ⟨[u], []⟩ [("_law_script", u)]) ∧ (∀ (ns : List Int), ns.length ≤ 63 → ∃ fr m, df [.lst (ns.map .int)] [] = .ok (fr, .bl true) m) ∧
      ∀ base : Heap, T.K.In base → base.Ns mainGlobals mg → FnG P w T.K mg base 5 f fd ["_law_script"] (spT T 1 df) := by
  obtain ⟨fd_law_deal, F_law_deal⟩ := c.def_ 0 (d := d_law_deal) rfl
  have g_law_deal := He.glo_ok X G (c.fact 0 (f := .glo "_law_deal") rfl)
  obtain ⟨fd_law_pick, F_law_pick⟩ := c.def_ 1 (d := d_law_pick) rfl
  have g_law_pick := He.glo_ok X G (c.fact 1 (f := .glo "_law_pick") rfl)
  obtain ⟨fd_law_of, F_law_of⟩ := c.def_ 2 (d := d_law_of) rfl
  have g_law_of := He.glo_ok X G (c.fact 2 (f := .glo "_law_of") rfl)
  obtain ⟨fd_law_ordinary, F_law_ordinary⟩ := c.def_ 3 (d := d_law_ordinary) rfl
  have g_law_ordinary := He.glo_ok X G (c.fact 3 (f := .glo "_law_ordinary") rfl)
  obtain ⟨fd_law_all_slips, F_law_all_slips⟩ := c.def_ 4 (d := d_law_all_slips) rfl
  have g_law_all_slips := He.glo_ok X G (c.fact 4 (f := .glo "_law_all_slips") rfl)
  obtain ⟨fd_is_left_out, F_is_left_out⟩ := c.def_ 5 (d := d_is_left_out) rfl
  have g_is_left_out := He.glo_ok X G (c.fact 5 (f := .glo "is_left_out") rfl)
  obtain ⟨fd_is_slip, F_is_slip⟩ := c.def_ 6 (d := d_is_slip) rfl
  have g_is_slip := He.glo_ok X G (c.fact 6 (f := .glo "is_slip") rfl)
  obtain ⟨fd_near, F_near⟩ := c.def_ 7 (d := d_near) rfl
  have g_near := He.glo_ok X G (c.fact 7 (f := .glo "near") rfl)
  obtain ⟨fd_surely, F_surely⟩ := c.def_ 8 (d := d_surely) rfl
  have g_surely := He.glo_ok X G (c.fact 8 (f := .glo "surely") rfl)
  obtain ⟨fd_law_same, F_law_same⟩ := c.def_ 9 (d := d_law_same) rfl
  have g_law_same := He.glo_ok X G (c.fact 9 (f := .glo "_law_same") rfl)
  obtain ⟨fd_law, F_law⟩ := c.def_ 10 (d := d_law) rfl
  have g_law := He.glo_ok X G (c.fact 10 (f := .glo "law") rfl)
  have n_any := He.free_ok X G (c.fact 11 (f := .free "any") rfl)
  have n_int := He.free_ok X G (c.fact 12 (f := .free "int") rfl)
  have n_len := He.free_ok X G (c.fact 13 (f := .free "len") rfl)
  have n_list := He.free_ok X G (c.fact 14 (f := .free "list") rfl)
  have n_range := He.free_ok X G (c.fact 15 (f := .free "range") rfl)
  have n_repr := He.free_ok X G (c.fact 16 (f := .free "repr") rfl)
  have n_set := He.free_ok X G (c.fact 17 (f := .free "set") rfl)
  have n_sorted := He.free_ok X G (c.fact 18 (f := .free "sorted") rfl)
  have n_tuple := He.free_ok X G (c.fact 19 (f := .free "tuple") rfl)
  have e := hfa.symm.trans g_law
  cases e
  have b := FunD.bindsA (ps := ["_law_script"]) F_law fun _ _ _ _ _ _ us hl => match us, hl with | [_], _ => rfl
  let T : Tab := ⟨K, []⟩
  refine ⟨T, fd_law, f_law, X, fun s v => b s [v] rfl, Pl.plain, fun base _ _ => ?_⟩
  have ok_law_deal := ok_law_deal (T := T) (P := P) (w := w) (mg := mg) (base := base) F_law_deal n_int n_len
  have b_law_deal : L2.Binds K fd_law_deal ["_law_script"] [] := F_law_deal.bindsN fun _ _ _ _ _ _ us hl => match us, hl with | [_], _ => rfl
  have c_law_deal : Cal T P w mg base 1 "_law_deal" 1 f_law_deal := Cal.of ok_law_deal g_law_deal F_law_deal.kp b_law_deal rfl
  have ok_law_pick := ok_law_pick (T := T) (P := P) (w := w) (mg := mg) (base := base) F_law_pick n_int n_len
  have b_law_pick : L2.Binds K fd_law_pick ["_law_deal_here", "_law_many"] [] := F_law_pick.bindsN fun _ _ _ _ _ _ us hl => match us, hl with | [_, _], _ => rfl
  have c_law_pick : Cal T P w mg base 1 "_law_pick" 2 f_law_pick := Cal.of ok_law_pick g_law_pick F_law_pick.kp b_law_pick rfl
  have ok_law_of := ok_law_of (T := T) (P := P) (w := w) (mg := mg) (base := base) F_law_of c_law_pick n_len
  have b_law_of : L2.Binds K fd_law_of ["_law_deal_here", "_law_items"] [] := F_law_of.bindsN fun _ _ _ _ _ _ us hl => match us, hl with | [_, _], _ => rfl
  have c_law_of : Cal T P w mg base 2 "_law_of" 2 f_law_of := Cal.of ok_law_of g_law_of F_law_of.kp b_law_of rfl
  have ok_law_ordinary := ok_law_ordinary (T := T) (P := P) (w := w) (mg := mg) (base := base) F_law_ordinary c_law_pick c_law_of n_range
  have b_law_ordinary : L2.Binds K fd_law_ordinary ["_law_deal_here"] [] := F_law_ordinary.bindsN fun _ _ _ _ _ _ us hl => match us, hl with | [_], _ => rfl
  have c_law_ordinary : Cal T P w mg base 3 "_law_ordinary" 1 f_law_ordinary := Cal.of ok_law_ordinary g_law_ordinary F_law_ordinary.kp b_law_ordinary rfl
  have ok_law_all_slips := ok_law_all_slips (T := T) (P := P) (w := w) (mg := mg) (base := base) F_law_all_slips n_len n_range n_set n_sorted
  have b_law_all_slips : L2.Binds K fd_law_all_slips ["_law_word", "_law_signs"] [] := F_law_all_slips.bindsN fun _ _ _ _ _ _ us hl => match us, hl with | [_, _], _ => rfl
  have c_law_all_slips : Cal T P w mg base 1 "_law_all_slips" 2 f_law_all_slips := Cal.of ok_law_all_slips g_law_all_slips F_law_all_slips.kp b_law_all_slips rfl
  have ok_is_left_out := ok_is_left_out (T := T) (P := P) (w := w) (mg := mg) (base := base) F_is_left_out n_any n_len n_range
  have b_is_left_out : L2.Binds K fd_is_left_out ["short", "long"] [] := F_is_left_out.bindsN fun _ _ _ _ _ _ us hl => match us, hl with | [_, _], _ => rfl
  have c_is_left_out : Cal T P w mg base 1 "is_left_out" 2 f_is_left_out := Cal.of ok_is_left_out g_is_left_out F_is_left_out.kp b_is_left_out rfl
  have ok_is_slip := ok_is_slip (T := T) (P := P) (w := w) (mg := mg) (base := base) F_is_slip c_is_left_out n_len n_range
  have b_is_slip : L2.Binds K fd_is_slip ["one", "other"] [] := F_is_slip.bindsN fun _ _ _ _ _ _ us hl => match us, hl with | [_, _], _ => rfl
  have c_is_slip : Cal T P w mg base 2 "is_slip" 2 f_is_slip := Cal.of ok_is_slip g_is_slip F_is_slip.kp b_is_slip rfl
  have ok_near := ok_near (T := T) (P := P) (w := w) (mg := mg) (base := base) F_near c_is_slip n_sorted
  have b_near : L2.Binds K fd_near ["keys", "text"] [] := F_near.bindsN fun _ _ _ _ _ _ us hl => match us, hl with | [_, _], _ => rfl
  have c_near : Cal T P w mg base 3 "near" 2 f_near := Cal.of ok_near g_near F_near.kp b_near rfl
  have kb_near : KB K fd_near ["keys", "text"] 0 ["text", "keys"] [1, 0] := FnD_KB F_near fun _ _ _ _ _ _ us ws h1 h2 => match us, ws, h1, h2 with | [], [_, _], _, _ => rfl
  have k_near_text_keys : CalK T P w mg base 3 "near" 2 f_near 0 ["text", "keys"] [1, 0] := CalK.of ok_near g_near F_near.kp kb_near rfl
  have ok_surely := ok_surely (T := T) (P := P) (w := w) (mg := mg) (base := base) F_surely c_near n_len
  have b_surely : L2.Binds K fd_surely ["keys", "text"] [] := F_surely.bindsN fun _ _ _ _ _ _ us hl => match us, hl with | [_, _], _ => rfl
  have c_surely : Cal T P w mg base 4 "surely" 2 f_surely := Cal.of ok_surely g_surely F_surely.kp b_surely rfl
  have kb_surely : KB K fd_surely ["keys", "text"] 0 ["text", "keys"] [1, 0] := FnD_KB F_surely fun _ _ _ _ _ _ us ws h1 h2 => match us, ws, h1, h2 with | [], [_, _], _, _ => rfl
  have k_surely_text_keys : CalK T P w mg base 4 "surely" 2 f_surely 0 ["text", "keys"] [1, 0] := CalK.of ok_surely g_surely F_surely.kp kb_surely rfl
  have ok_law_same := ok_law_same (T := T) (P := P) (w := w) (mg := mg) (base := base) F_law_same n_repr
  have b_law_same : L2.Binds K fd_law_same ["_law_found", "_law_due"] [] := F_law_same.bindsN fun _ _ _ _ _ _ us hl => match us, hl with | [_, _], _ => rfl
  have c_law_same : Cal T P w mg base 1 "_law_same" 2 f_law_same := Cal.of ok_law_same g_law_same F_law_same.kp b_law_same rfl
  have ok_law := ok_law (T := T) (P := P) (w := w) (mg := mg) (base := base) F_law c_law_deal c_law_ordinary c_law_pick c_law_of c_law_all_slips c_surely c_near c_law_same k_surely_text_keys k_near_text_keys n_len n_list n_range n_set n_sorted n_tuple
  exact ok_law
end Wk
open PySem PySem.W PySem.Calls PyProof.Rows
theorem PySem.Challenge.cw_rivalkeys_k56_keys_that_are_near_holds : PySem.Challenge.rw_rivalkeys_k56_keys_that_are_near.Holds := by
  w_on; o_law
  refine HandSHeadRun.head_any (r := OpenLaw.row PySem.Challenge.rw_rivalkeys_k56_keys_that_are_near) (q := view (OpenLaw.row PySem.Challenge.rw_rivalkeys_k56_keys_that_are_near).prog [12]) (H := Wk.hk) (ob := Wk.ob) (M := 20000) (loose := Wk.names) (d := HandSHeadRun.topDef (OpenLaw.row PySem.Challenge.rw_rivalkeys_k56_keys_that_are_near).prog 12) (kwd := []) Wk.ob_eq
    (by kernel_rfl) (fun s => by kernel_rfl) Wk.run (by kernel_rfl) (by kernel_rfl) (by kernel_rfl) (by rfl) (by first | assumption | decide +kernel) (by decide +kernel) ⟨rfl, rfl, rfl, rfl, rfl, by decide +kernel⟩ ?hw ?hc
  case hw => w_witness2
  case hc =>
    refine TL.law_end (l := PySem.Challenge.rw_rivalkeys_k56_keys_that_are_near) (n := 63) (k := 5) (x := "_law_script") rfl (by decide) (by kernel_rfl) ⟨rfl, by decide, by decide⟩ ?F
    intro w mg fa h Y G hmg0
    obtain ⟨K, KX, c⟩ := Y
    have hmg : mg ("law" : PySem.Str) = some (.ref fa) := by
      have e : (HandSHeadRun.topDef (OpenLaw.row PySem.Challenge.rw_rivalkeys_k56_keys_that_are_near).prog 12).name = ("law" : PySem.Str) := by kernel_rfl
      rw [← e]
      exact hmg0
    exact Wk.facts (P := (PySem.Challenge.rw_rivalkeys_k56_keys_that_are_near).prog) (w := w) KX G hmg c
