import PyProof.Rows.All
import Wide.All
import OpenK.AllK
import Wide.FinOn
import HandS.ForMost
import HandS.Defaults
import KE.KDictKeyed
import KE.DataEq
import HandS.Wide
import HandS.TupAny
import HandS.Style
import HandS.Deep
import HandS.Star
import HandS.Zip
import HandS.Small
import HandS.SetKeys
import HandS.More
import HandS.TupLen
import HandS.IsInst
import KE.DataIsa
import KE.DataMinMax
import KE.SortData
import KE.KDictSum
import HandS.Conv
import HandS.RaiseMore
import HandS.WordsDict
import KE.DataFind
import KE.DataAny
import KE.KIndexOf
import HandS.Text
import KE.KRevSl
import HandS.Words
import HandS.WordsExc
import HandS.Exc
import HandS.HeadHook2
import KE.GoesEnum
import HandS.Head0
import HandS.Head1
import HandS.Head2
import HandS.HeadEnd
import HandS.HeadHook1
import PySem.Challenge.RW_rightbetween_k37_whole_merges_by_many_wa
set_option Elab.async false
set_option linter.all false
set_option maxRecDepth 100000
set_option maxHeartbeats 8000000
/-! Pure values, and how they stand for the layer's values. -/
namespace PS
open PySem PySem.Spec PyProof.Rows L2

/-- a value as a tree; loc n: the n-th object of the store -/
inductive D where
  | non
  | bl (b : Bool)
  | int (i : Int)
  | str (x : Str)
  | tup (ds : List D)
  | lst (ds : List D)
  | dct (t : Bool) (kvs : List (D × D))
  | ins (c : Str) (fs : List (Str × D))
  | loc (n : Nat)
  | fn (x : Str)
  /-- a pair that a walk yields -/
  | pr (ds : List D)

/-- what an object that may be written holds -/
inductive Ob where
  | lst (ds : List D)
  | dct (t : Bool) (kvs : List (D × D))
  | ins (c : Str) (fs : List (Str × D))
def Ob.fz : Ob → D
  | .lst ds => .lst ds
  | .dct t kvs => .dct t kvs
  | .ins c fs => .ins c fs
/-- a slot: a value, or an object that nothing else names -/
inductive SV where
  | val (d : D)
  | own (ob : Ob)
abbrev Sl := List (Option SV)
abbrev Sto := List Ob
abbrev Cell := Nat ⊕ Nat
def objAt (sl : Sl) (S : Sto) : Cell → Option Ob
  | .inl n => S[n]?
  | .inr i => match sl[i]? with
    | some (some (.own ob)) => some ob
    | _ => none

mutual
def nk : D → Option NestedKey
  | .non => some .none
  | .bl b => some (.num (if b = true then 1 else 0))
  | .int i => some (.num i)
  | .str x => some (.text x)
  | .tup ds => (nks ds).map .tup
  | _ => none
def nks : List D → Option (List NestedKey)
  | [] => some []
  | d :: ds => match nk d, nks ds with
    | some k, some ks => some (k :: ks)
    | _, _ => none
end
def ky : D → Option Key
  | .int i => some (.inl i)
  | .str x => some (.inr x)
  | _ => none

/-- the fixed part -/
structure Cf where
  P : Program
  w : World
  K : PySem.W.Frag
  mg : Str → Option Value

/-- the one object of a dict with keys of nested tuples -/
def dphi (C : Cf) (a : Addr) (xs : List (NestedKey × Addr × Value)) : HO :=
  .ext fun h => (a == sysModules) = false ∧ xs.length ≤ sizeLine ∧ (∀ x ∈ xs, x.1.depth ≤ 8) ∧ ∃ o es ep, h.get? a = some o ∧ o.ExactDict ∧ o.data = .dict es ep ∧ es.toList = xs.map (entryOfKey (nestedKind C.P C.w)) ∧ (xs.map (·.1)).Nodup

def KTup (K : PySem.W.Frag) (a : Addr) (xs : List V) : Prop := ∃ (o : Obj) (its : Array Value) (n : Nat), K.lookup a = some o ∧ o.cls = .type "tuple" ∧ o.data = .seq its n ∧ its.size ≤ sizeLine ∧ Vals xs its.toList ∧ o.dict = none
theorem KTup.sq {K : PySem.W.Frag} {H : Hp} {a : Addr} {xs : List V} (h : KTup K a xs) : SqT K H a xs := let ⟨o, its, n, h1, h2, h3, h4, h5, _⟩ := h; .inr ⟨o, its, n, h1, h2, h3, h4, h5⟩
/-- a tuple that is known to the object, without own attributes -/
def Td (H : Hp) (a : Addr) (vs : List V) : Prop := ∃ o : Obj, o.dict = none ∧ H a = some (.frz o (.tup vs))
theorem Td.rd {H : Hp} {a : Addr} {vs : List V} (h : Td H a vs) : Rd H a (.tup vs) := let ⟨o, _, e⟩ := h; .inr ⟨o, e⟩
def KLst (K : PySem.W.Frag) (a : Addr) (xs : List V) : Prop := ∃ (o : Obj) (its : Array Value) (n : Nat), K.lookup a = some o ∧ o.cls = .type "list" ∧ o.dict = none ∧ o.data = .seq its n ∧ its.size ≤ sizeLine ∧ Vals xs its.toList 
theorem KLst.sq {K : PySem.W.Frag} {H : Hp} {a : Addr} {xs : List V} (h : KLst K a xs) : SqL K H a xs := let ⟨o, its, n, h1, h2, h3, h4, h5, h6⟩ := h; .inr ⟨o, its, n, h1, h2, h3, h4, h5, h6⟩

section
variable (C : Cf) (W : Addr → Prop) (al : Nat → Addr) (N : Nat) (H : Hp)
mutual
/-- the tree d stands for v; what may be written (W) is not part of it, but by its number in the store -/
inductive Rep : D → V → Prop
  | non : Rep .non .non
  | bl (b : Bool) : Rep (.bl b) (.bl b)
  | int (i : Int) : Rep (.int i) (.int i)
  | str (x : Str) : Rep (.str x) (.str x)
  | tup {a : Addr} {ds : List D} {vs : List V} : ¬ W a → Td H a vs → Reps ds vs → Rep (.tup ds) (.ref a)
  | pr {a : Addr} {ds : List D} {vs : List V} : ¬ W a → Rd H a (.tup vs) → Reps ds vs → Rep (.pr ds) (.ref a)
  | ktup {a : Addr} {ds : List D} {vs : List V} : KTup C.K a vs → Reps ds vs → Rep (.tup ds) (.ref a)
  | lst {a : Addr} {ds : List D} {ho : HO} : ¬ W a → Rd H a ho → RepH a (.lst ds) ho → Rep (.lst ds) (.ref a)
  | klst {a : Addr} {ds : List D} {vs : List V} : KLst C.K a vs → Reps ds vs → Rep (.lst ds) (.ref a)
  | dct {a : Addr} {t : Bool} {kvs : List (D × D)} {ho : HO} : ¬ W a → Rd H a ho → RepH a (.dct t kvs) ho → Rep (.dct t kvs) (.ref a)
  | ins {a : Addr} {c : Str} {fs : List (Str × D)} {ho : HO} : ¬ W a → H a = some ho → RepH a (.ins c fs) ho → Rep (.ins c fs) (.ref a)
  | loc {n : Nat} : n < N → Rep (.loc n) (.ref (al n))
  | fn {x : Str} {v : V} {u : Value} : C.mg x = some u → RelV v u → Rep (.fn x) v
inductive RepH : Addr → Ob → HO → Prop
  | lst {a : Addr} {ds : List D} {vs : List V} : Reps ds vs → RepH a (.lst ds) (.lst vs)
  | dctM {a : Addr} {kvs : List (D × D)} {ws : List (Key × V)} : RepKM kvs ws → RepH a (.dct false kvs) (.dK ws)
  | dctN {a : Addr} {kvs : List (D × D)} {xs : List (NestedKey × Addr × Value)} : RepKN kvs xs → RepH a (.dct true kvs) (dphi C a xs)
  | ins {a : Addr} {c : Str} {fs : List (Str × D)} {K dx : Addr} {gs : List (Str × V)} : C.mg c = some (.ref K) → RepF fs gs → RepH a (.ins c fs) (.ins K dx gs)
inductive Reps : List D → List V → Prop
  | nil : Reps [] []
  | cons {d : D} {v : V} {ds : List D} {vs : List V} : Rep d v → Reps ds vs → Reps (d :: ds) (v :: vs)
inductive RepKM : List (D × D) → List (Key × V) → Prop
  | nil : RepKM [] []
  | cons {d e : D} {k : Key} {v : V} {kvs : List (D × D)} {ws : List (Key × V)} : ky d = some k → Rep e v → RepKM kvs ws → RepKM ((d, e) :: kvs) ((k, v) :: ws)
inductive RepKN : List (D × D) → List (NestedKey × Addr × Value) → Prop
  | nil : RepKN [] []
  | cons {d e : D} {k : NestedKey} {a : Addr} {v : V} {u : Value} {kvs : List (D × D)} {xs : List (NestedKey × Addr × Value)} : nk d = some k → Rep d (.ref a) → RelV v u → Rep e v → RepKN kvs xs → RepKN ((d, e) :: kvs) ((k, a, u) :: xs)
inductive RepF : List (Str × D) → List (Str × V) → Prop
  | nil : RepF [] []
  | cons {f : Str} {e : D} {v : V} {fs : List (Str × D)} {gs : List (Str × V)} : Rep e v → RepF fs gs → RepF ((f, e) :: fs) ((f, v) :: gs)
end
end
end PS

namespace PS
open PySem PySem.Spec PyProof.Rows L2

/-- a dict may come under lock: it is walked -/
def lkb : HO → Bool
  | .dK _ => true
  | .ext _ => true
  | _ => false
/-- what stood and may not be written stands as it was -/
structure Ext (W : Addr → Prop) (al : Nat → Addr) (N : Nat) (H : Hp) (W' : Addr → Prop) (al' : Nat → Addr) (N' : Nat) (H' : Hp) : Prop where
  nn : N ≤ N'
  al : ∀ n, n < N → al' n = al n
  wr : ∀ a, W' a → W a ∨ H a = none
  kp : ∀ a o, ¬ W a → H a = some o → H' a = some o ∨ (lkb o = true ∧ ∃ x, H' a = some (.frz x o))

section
variable {C : Cf} {W W' W2 : Addr → Prop} {al al' al2 : Nat → Addr} {N N' N2 : Nat} {H H' H2 : Hp}
theorem Ext.refl : Ext W al N H W al N H := ⟨Nat.le_refl _, fun _ _ => rfl, fun _ h => .inl h, fun _ _ _ h => .inl h⟩
theorem Ext.nw (e : Ext W al N H W' al' N' H') {a : Addr} {o : HO} (h : ¬ W a) (q : H a = some o) : ¬ W' a := fun z => by
  rcases e.wr a z with z | z
  · exact h z
  · rw [q] at z; cases z
theorem Ext.trans (e : Ext W al N H W' al' N' H') (f : Ext W' al' N' H' W2 al2 N2 H2) : Ext W al N H W2 al2 N2 H2 where
  nn := Nat.le_trans e.nn f.nn
  al := fun n h => (f.al n (Nat.lt_of_lt_of_le h e.nn)).trans (e.al n h)
  wr := fun a z => by
    rcases f.wr a z with z | z
    · exact e.wr a z
    · by_cases w : W a
      · exact .inl w
      · refine .inr ?_
        cases q : H a with
        | none => rfl
        | some o => rcases e.kp a o w q with k | ⟨_, x, k⟩ <;> (rw [k] at z; cases z)
  kp := fun a o w q => by
    rcases e.kp a o w q with k | ⟨l, x, k⟩
    · exact f.kp a o (e.nw w q) k
    · rcases f.kp a _ (e.nw w q) k with k2 | ⟨l2, _⟩
      · exact .inr ⟨l, x, k2⟩
      · cases l2
theorem rd_some {H : Hp} {a : Addr} {u : HO} (h : Rd H a u) : ∃ o, H a = some o := by
  rcases h with h | ⟨o, h⟩
  · exact ⟨_, h⟩
  · exact ⟨_, h⟩
theorem Ext.rd (e : Ext W al N H W' al' N' H') {a : Addr} {u : HO} (w : ¬ W a) (h : Rd H a u) : ¬ W' a ∧ Rd H' a u := by
  obtain ⟨o, q⟩ := rd_some h
  refine ⟨e.nw w q, ?_⟩
  rcases h with h | ⟨o, h⟩
  · rcases e.kp a _ w h with k | ⟨_, x, k⟩
    · exact .inl k
    · exact .inr ⟨x, k⟩
  · rcases e.kp a _ w h with k | ⟨l, _⟩
    · exact .inr ⟨o, k⟩
    · cases l
theorem Ext.td (e : Ext W al N H W' al' N' H') {a : Addr} {vs : List V} (w : ¬ W a) (h : Td H a vs) : ¬ W' a ∧ Td H' a vs := by
  obtain ⟨o, hd, q⟩ := h
  refine ⟨e.nw w q, o, hd, ?_⟩
  rcases e.kp a _ w q with k | ⟨l, _⟩
  · exact k
  · cases l
theorem Ext.kpI (e : Ext W al N H W' al' N' H') {a : Addr} {ho : HO} (w : ¬ W a) (h : H a = some ho) (l : lkb ho = false) : H' a = some ho := by
  rcases e.kp a _ w h with k | ⟨l', _⟩
  · exact k
  · rw [l] at l'; cases l'
theorem repH_ins {a : Addr} {c : Str} {fs : List (Str × D)} {ho : HO} (r : RepH C W al N H a (.ins c fs) ho) : lkb ho = false := by
  cases r
  rfl
mutual
theorem Rep.mono (e : Ext W al N H W' al' N' H') : ∀ {d : D} {v : V}, Rep C W al N H d v → Rep C W' al' N' H' d v
  | _, _, .non => .non
  | _, _, .bl b => .bl b
  | _, _, .int i => .int i
  | _, _, .str x => .str x
  | _, _, .tup w h r => .tup (e.td w h).1 (e.td w h).2 (Reps.mono e r)
  | _, _, .pr w h r => .pr (e.rd w h).1 (e.rd w h).2 (Reps.mono e r)
  | _, _, .ktup h r => .ktup h (Reps.mono e r)
  | _, _, .lst w h r => .lst (e.rd w h).1 (e.rd w h).2 (RepH.mono e r)
  | _, _, .klst h r => .klst h (Reps.mono e r)
  | _, _, .dct w h r => .dct (e.rd w h).1 (e.rd w h).2 (RepH.mono e r)
  | _, _, .ins w h r => .ins (e.nw w h) (e.kpI w h (repH_ins r)) (RepH.mono e r)
  | _, _, @Rep.loc _ _ _ _ _ n h => by rw [← e.al n h]; exact .loc (Nat.lt_of_lt_of_le h e.nn)
  | _, _, .fn h r => .fn h r
theorem RepH.mono (e : Ext W al N H W' al' N' H') : ∀ {a : Addr} {ob : Ob} {ho : HO}, RepH C W al N H a ob ho → RepH C W' al' N' H' a ob ho
  | _, _, _, .lst r => .lst (Reps.mono e r)
  | _, _, _, .dctM r => .dctM (RepKM.mono e r)
  | _, _, _, .dctN r => .dctN (RepKN.mono e r)
  | _, _, _, .ins h r => .ins h (RepF.mono e r)
theorem Reps.mono (e : Ext W al N H W' al' N' H') : ∀ {ds : List D} {vs : List V}, Reps C W al N H ds vs → Reps C W' al' N' H' ds vs
  | _, _, .nil => .nil
  | _, _, .cons r t => .cons (Rep.mono e r) (Reps.mono e t)
theorem RepKM.mono (e : Ext W al N H W' al' N' H') : ∀ {kvs : List (D × D)} {ws : List (Key × V)}, RepKM C W al N H kvs ws → RepKM C W' al' N' H' kvs ws
  | _, _, .nil => .nil
  | _, _, .cons h r t => .cons h (Rep.mono e r) (RepKM.mono e t)
theorem RepKN.mono (e : Ext W al N H W' al' N' H') : ∀ {kvs : List (D × D)} {xs : List (NestedKey × Addr × Value)}, RepKN C W al N H kvs xs → RepKN C W' al' N' H' kvs xs
  | _, _, .nil => .nil
  | _, _, .cons h r q s t => .cons h (Rep.mono e r) q (Rep.mono e s) (RepKN.mono e t)
theorem RepF.mono (e : Ext W al N H W' al' N' H') : ∀ {fs : List (Str × D)} {gs : List (Str × V)}, RepF C W al N H fs gs → RepF C W' al' N' H' fs gs
  | _, _, .nil => .nil
  | _, _, .cons r t => .cons (Rep.mono e r) (RepF.mono e t)
end
theorem Reps.length : ∀ {ds : List D} {vs : List V}, Reps C W al N H ds vs → ds.length = vs.length
  | _, _, .nil => rfl
  | _, _, .cons _ t => by rw [List.length_cons, List.length_cons, Reps.length t]
theorem Reps.get : ∀ {ds : List D} {vs : List V} {i : Nat} {d : D}, Reps C W al N H ds vs → ds[i]? = some d → ∃ v, vs[i]? = some v ∧ Rep C W al N H d v
  | _, _, _, _, .nil, e => by simp at e
  | _, _, 0, _, .cons r _, e => by simp at e; subst e; exact ⟨_, rfl, r⟩
  | _, _, i + 1, _, .cons _ t, e => by
    obtain ⟨v, h1, h2⟩ := Reps.get (i := i) t (by simpa using e)
    exact ⟨v, by simpa using h1, h2⟩
theorem Reps.get' : ∀ {ds : List D} {vs : List V} {i : Nat} {v : V}, Reps C W al N H ds vs → vs[i]? = some v → ∃ d, ds[i]? = some d ∧ Rep C W al N H d v
  | _, _, _, _, .nil, e => by simp at e
  | _, _, 0, _, .cons r _, e => by simp at e; subst e; exact ⟨_, rfl, r⟩
  | _, _, i + 1, _, .cons _ t, e => by
    obtain ⟨d, h1, h2⟩ := Reps.get' (i := i) t (by simpa using e)
    exact ⟨d, by simpa using h1, h2⟩
theorem Reps.append : ∀ {ds es : List D} {vs ws : List V}, Reps C W al N H ds vs → Reps C W al N H es ws → Reps C W al N H (ds ++ es) (vs ++ ws)
  | _, _, _, _, .nil, s => s
  | _, _, _, _, .cons r t, s => .cons r (Reps.append t s)
theorem Reps.set : ∀ {ds : List D} {vs : List V} (i : Nat) {d : D} {v : V}, Reps C W al N H ds vs → Rep C W al N H d v → Reps C W al N H (ds.set i d) (vs.set i v)
  | _, _, _, _, _, .nil, _ => .nil
  | _, _, 0, _, _, .cons _ t, r => .cons r t
  | _, _, i + 1, _, _, .cons q t, r => .cons q (Reps.set i t r)
theorem Reps.take : ∀ {ds : List D} {vs : List V} (i : Nat), Reps C W al N H ds vs → Reps C W al N H (ds.take i) (vs.take i)
  | _, _, 0, _ => .nil
  | _, _, _ + 1, .nil => .nil
  | _, _, i + 1, .cons r t => .cons r (Reps.take i t)
theorem Reps.drop : ∀ {ds : List D} {vs : List V} (i : Nat), Reps C W al N H ds vs → Reps C W al N H (ds.drop i) (vs.drop i)
  | _, _, 0, r => r
  | _, _, _ + 1, .nil => .nil
  | _, _, i + 1, .cons _ t => Reps.drop i t
theorem Reps.reverse : ∀ {ds : List D} {vs : List V}, Reps C W al N H ds vs → Reps C W al N H ds.reverse vs.reverse
  | _, _, .nil => .nil
  | _, _, .cons r t => by rw [List.reverse_cons, List.reverse_cons]; exact (Reps.reverse t).append (.cons r .nil)
end

/-! ### the state -/
/-- the mutable kinds -/
def mtb : HO → Prop
  | .lst _ => True
  | .dK _ => True
  | .ext _ => True
  | .ins _ _ _ => True
  | _ => False
theorem mtb.Mut {o : HO} (h : mtb o) : L2.Mut (some o) := by
  cases o <;> first | exact True.intro | exact h.elim

/-- what may be written: what outer frames own (U), the cells -/
def Wr (U : Addr → Prop) (ad : Cell → Addr) (sl : Sl) (S : Sto) (a : Addr) : Prop := U a ∨ ∃ c ob, objAt sl S c = some ob ∧ ad c = a

inductive RepS (C : Cf) (W : Addr → Prop) (al : Nat → Addr) (N : Nat) (H : Hp) (at_ : Addr) : SV → V → Prop
  | val {d : D} {v : V} : Rep C W al N H d v → RepS C W al N H at_ (.val d) v
  | own {ob : Ob} : RepS C W al N H at_ (.own ob) (.ref at_)

abbrev lc (ad : Cell → Addr) : Nat → Addr := fun n => ad (.inl n)
/-- THE RELATION: slots and store on the one side, slots and abstract heap on the other; ad: where the cells stand -/
structure Sim (C : Cf) (U : Addr → Prop) (ad : Cell → Addr) (sl : Sl) (S : Sto) (σ : L2.St) (H : Hp) : Prop where
  len : sl.length = σ.length
  cel : ∀ c ob, objAt sl S c = some ob → ∃ ho, H (ad c) = some ho ∧ mtb ho ∧ RepH C (Wr U ad sl S) (lc ad) S.length H (ad c) ob ho
  slt : ∀ i sv, sl[i]? = some (some sv) → ∃ v, σ[i]? = some (some v) ∧ RepS C (Wr U ad sl S) (lc ad) S.length H (ad (.inr i)) sv v
  inj : ∀ c c' ob ob', objAt sl S c = some ob → objAt sl S c' = some ob' → ad c = ad c' → c = c'
  out : ∀ c ob, objAt sl S c = some ob → ¬ U (ad c)
  utr : ∀ a, U a → ∃ ho, H a = some ho ∧ mtb ho

/-- behind a step: the relation's Ext, and what outer frames own is as it was -/
structure Nx (U : Addr → Prop) (ad : Cell → Addr) (sl : Sl) (S : Sto) (H : Hp) (ad' : Cell → Addr) (sl' : Sl) (S' : Sto) (H' : Hp) : Prop where
  ext : Ext (Wr U ad sl S) (lc ad) S.length H (Wr U ad' sl' S') (lc ad') S'.length H'
  ku : ∀ a o, U a → H a = some o → H' a = some o
section
variable {C : Cf} {U : Addr → Prop} {ad ad' ad2 : Cell → Addr} {sl sl' sl2 : Sl} {S S' S2 : Sto} {σ : L2.St} {H H' H2 : Hp}
theorem Nx.refl : Nx U ad sl S H ad sl S H := ⟨Ext.refl, fun _ _ _ h => h⟩
theorem Nx.trans (e : Nx U ad sl S H ad' sl' S' H') (f : Nx U ad' sl' S' H' ad2 sl2 S2 H2) : Nx U ad sl S H ad2 sl2 S2 H2 :=
  ⟨e.ext.trans f.ext, fun a o u h => f.ku a o u (e.ku a o u h)⟩
theorem Sim.wmut (s : Sim C U ad sl S σ H) {a : Addr} (h : Wr U ad sl S a) : ∃ ho, H a = some ho ∧ mtb ho := by
  rcases h with h | ⟨c, ob, h, rfl⟩
  · exact s.utr a h
  · obtain ⟨ho, h1, h2, _⟩ := s.cel c ob h
    exact ⟨ho, h1, h2⟩
theorem Sim.fresh (s : Sim C U ad sl S σ H) {p : Addr} (h : H p = none) : ¬ Wr U ad sl S p := fun z => by
  obtain ⟨ho, q, _⟩ := s.wmut z
  rw [h] at q; cases q
/-- a new object is laid, that is not written -/
theorem Sim.laid (s : Sim C U ad sl S σ H) {p : Addr} {o : HO} (h : H p = none) : Sim C U ad sl S σ (upd H p o) ∧ Nx U ad sl S H ad sl S (upd H p o) := by
  have kp : ∀ a u, H a = some u → upd H p o a = some u := fun a u q => by rw [upd_ne (ne_of_none q h)]; exact q
  have e : Ext (Wr U ad sl S) (lc ad) S.length H (Wr U ad sl S) (lc ad) S.length (upd H p o) := ⟨Nat.le_refl _, fun _ _ => rfl, fun _ z => .inl z, fun a u _ q => .inl (kp a u q)⟩
  refine ⟨⟨s.len, fun c ob q => ?_, fun i sv q => ?_, s.inj, s.out, fun a q => ?_⟩, e, fun a u _ q => kp a u q⟩
  · obtain ⟨ho, h1, h2, h3⟩ := s.cel c ob q
    exact ⟨ho, kp _ _ h1, h2, h3.mono e⟩
  · obtain ⟨v, h1, h2⟩ := s.slt i sv q
    refine ⟨v, h1, ?_⟩
    cases h2 with
    | val r => exact .val (r.mono e)
    | own => exact .own
  · obtain ⟨ho, h1, h2⟩ := s.utr a q
    exact ⟨ho, kp _ _ h1, h2⟩
end
end PS

namespace PS
open PySem PySem.Spec PyProof.Rows L2

/-! ### computations over slots and store -/
abbrev M (α : Type) := Sl → Sto → Option (α × Sl × Sto)
/-- an operand: a value, or what a slot holds -/
inductive Rf where
  | d (d : D)
  | sl (i : Nat)
def mPure {α : Type} (a : α) : M α := fun sl S => some (a, sl, S)
def mBind {α β : Type} (m : M α) (f : α → M β) : M β := fun sl S => match m sl S with
  | some (a, sl', S') => f a sl' S'
  | none => none
theorem mBind_some {α β : Type} {m : M α} {f : α → M β} {sl sl2 : Sl} {S S2 : Sto} {b : β} (h : mBind m f sl S = some (b, sl2, S2)) : ∃ a sl1 S1, m sl S = some (a, sl1, S1) ∧ f a sl1 S1 = some (b, sl2, S2) := by
  unfold mBind at h
  cases q : m sl S with
  | none => rw [q] at h; cases h
  | some p =>
    obtain ⟨a, sl1, S1⟩ := p
    rw [q] at h
    exact ⟨a, sl1, S1, rfl, h⟩

/-- how a pure result stands for the layer's, in a state -/
abbrev Rl (α β : Type) := Cf → (Addr → Prop) → (Nat → Addr) → Nat → Hp → L2.St → α → β → Prop
def rD : Rl D V := fun C W al N H _ d v => Rep C W al N H d v
inductive RepR (C : Cf) (W : Addr → Prop) (al : Nat → Addr) (N : Nat) (H : Hp) (σ : L2.St) : Rf → V → Prop
  | d {d : D} {v : V} : Rep C W al N H d v → RepR C W al N H σ (.d d) v
  | sl {i : Nat} {v : V} : σ[i]? = some (some v) → RepR C W al N H σ (.sl i) v
def rR : Rl Rf V := RepR
def rL : Rl (List D) (List V) := fun C W al N H _ ds vs => Reps C W al N H ds vs
def rB : Rl Bool Bool := fun _ _ _ _ _ _ b c => b = c
def rO : Rl (Option Int) (Option Int) := fun _ _ _ _ _ _ b c => b = c
theorem rR_mono {C : Cf} {W W' : Addr → Prop} {al al' : Nat → Addr} {N N' : Nat} {H H' : Hp} {σ : L2.St} {r : Rf} {v : V} (e : Ext W al N H W' al' N' H') (h : RepR C W al N H σ r v) : RepR C W' al' N' H' σ r v := by
  cases h with
  | d h => exact .d (h.mono e)
  | sl h => exact .sl h

/-- the reading of a computation -/
def tX {α β : Type} (R : Rl α β) (C : Cf) (m : M α) : L2.St → Hp → (β → Hp → Prop) → Prop := fun σ H Q =>
  ∃ U ad sl S a sl' S', Sim C U ad sl S σ H ∧ m sl S = some (a, sl', S') ∧
    ∀ ad' H' b, Sim C U ad' sl' S' σ H' → Nx U ad sl S H ad' sl' S' H' → R C (Wr U ad' sl' S') (lc ad') S'.length H' σ a b → Q b H'
/-- the same from a known state -/
def tY {α β : Type} (R : Rl α β) (C : Cf) (U : Addr → Prop) (ad : Cell → Addr) (sl : Sl) (S : Sto) (H : Hp) (a : α) (sl' : Sl) (S' : Sto) (σ : L2.St) (Q : β → Hp → Prop) : Prop :=
  ∀ ad' H' b, Sim C U ad' sl' S' σ H' → Nx U ad sl S H ad' sl' S' H' → R C (Wr U ad' sl' S') (lc ad') S'.length H' σ a b → Q b H'
/-- THE STEP: a computation, then the next one -/
theorem tX_bind {α β γ δ : Type} {R : Rl α β} {R2 : Rl γ δ} {C : Cf} {m : M α} {f : α → M γ} {σ : L2.St} {H : Hp} {Q : δ → Hp → Prop} {Z : β → Hp → Prop} (h : tX R2 C (mBind m f) σ H Q)
    (k : ∀ U ad sl S a c sl' S' H1 b, Sim C U ad sl S σ H1 → R C (Wr U ad sl S) (lc ad) S.length H1 σ a b → f a sl S = some (c, sl', S') → tY R2 C U ad sl S H1 c sl' S' σ Q → Z b H1) : tX R C m σ H Z := by
  obtain ⟨U, ad, sl, S, c, sl', S', s, e, q⟩ := h
  obtain ⟨a, sl1, S1, e1, e2⟩ := mBind_some e
  refine ⟨U, ad, sl, S, a, sl1, S1, s, e1, fun ad1 H1 b s1 n1 r1 => ?_⟩
  exact k U ad1 sl1 S1 a c sl' S' H1 b s1 r1 e2 fun ad2 H2 z s2 n2 r2 => q ad2 H2 z s2 (n1.trans n2) r2
theorem tX_of {α β : Type} {R : Rl α β} {C : Cf} {m : M α} {U : Addr → Prop} {ad : Cell → Addr} {sl sl' : Sl} {S S' : Sto} {σ : L2.St} {H : Hp} {a : α} {Q : β → Hp → Prop} (s : Sim C U ad sl S σ H) (e : m sl S = some (a, sl', S')) (q : tY R C U ad sl S H a sl' S' σ Q) : tX R C m σ H Q :=
  ⟨U, ad, sl, S, a, sl', S', s, e, q⟩
/-- nothing is done -/
theorem tY_here {α β : Type} {R : Rl α β} {C : Cf} {U : Addr → Prop} {ad : Cell → Addr} {sl : Sl} {S : Sto} {σ : L2.St} {H : Hp} {a : α} {b : β} {Q : β → Hp → Prop} (s : Sim C U ad sl S σ H) (q : tY R C U ad sl S H a sl S σ Q)
    (r : R C (Wr U ad sl S) (lc ad) S.length H σ a b) : Q b H := q ad H b s Nx.refl r

abbrev cf (X : Cx) : Cf := ⟨X.prog, X.w, X.K, X.mg⟩
/-- expressions: a value; an operand; a test; a list of values -/
def EE (X : Cx) (e : Expr) (m : M D) : Prop := PE X e (tX rD (cf X) m)
def ER (X : Cx) (e : Expr) (m : M Rf) : Prop := PE X e (tX rR (cf X) m)
def ET (X : Cx) (e : Expr) (m : M Bool) : Prop := PT X e (tX rB (cf X) m)
def EW (X : Cx) (e : Expr) (m : M Bool) : Prop := PW X e (tX rB (cf X) m)
def EA (X : Cx) (es : List Expr) (m : M (List D)) : Prop := PA X es (tX rL (cf X) m)

section
variable {X : Cx} {e e2 : Expr} {es : List Expr} {pos : Pos} {t t' : TE}
theorem pe_imp (h : PE X e t) (k : ∀ σ H Q, t' σ H Q → t σ H Q) : PE X e t' := ⟨fun pins s σ H Q I q => h.run pins s σ H Q I (k σ H Q q)⟩
theorem pt_imp {t t' : TT} (h : PT X e t) (k : ∀ σ H Q, t' σ H Q → t σ H Q) : PT X e t' := ⟨fun pins s σ H Q I q => h.run pins s σ H Q I (k σ H Q q)⟩
theorem pw_imp {t t' : TT} (h : PW X e t) (k : ∀ σ H Q, t' σ H Q → t σ H Q) : PW X e t' := ⟨fun wh pins s σ H Q I q => h.run wh pins s σ H Q I (k σ H Q q)⟩
theorem pa_imp {t t' : TA} (h : PA X es t) (k : ∀ σ H Q, t' σ H Q → t σ H Q) : PA X es t' := ⟨fun pos pins s σ H Q I q => h.run pos pins s σ H Q I (k σ H Q q)⟩
theorem ps_imp {st : Stmt} {t t' : TS} (h : PS X st t) (k : ∀ D σ H, t' D σ H → t D σ H) : PS X st t' := ⟨fun pins s σ H D I q => h.run pins s σ H D I (k D σ H q)⟩
theorem pss_imp {st : List Stmt} {t t' : TS} (h : PSs X st t) (k : ∀ D σ H, t' D σ H → t D σ H) : PSs X st t' := ⟨fun pins s σ H D I q => h.run pins s σ H D I (k D σ H q)⟩

/-! ### names -/
/-- the value of a slot; an own object is no more written behind it -/
def vr (i : Nat) : M D := fun sl S => match sl[i]? with
  | some (some (.val d)) => some (d, sl, S)
  | some (some (.own ob)) => some (ob.fz, sl.set i (some (.val ob.fz)), S)
  | _ => none
/-- what a slot holds, looked at where it is used -/
def pk (i : Nat) : M Rf := fun sl S => match sl[i]? with
  | some (some _) => some (.sl i, sl, S)
  | _ => none
def cs (d : D) : M D := mPure d
def oD (m : M D) : M Rf := mBind m fun d => mPure (.d d)

theorem er_of {m : M D} (h : EE X e m) : ER X e (oD m) := pe_imp h fun σ H Q q => tX_bind (f := fun d => mPure (Rf.d d)) q fun U ad sl S a c sl' S' H1 b s r e k => by
  cases e
  exact tY_here s k (.d r)
theorem er_pk (i : Nat) {x : Str} {pos : Pos} (hN : X.N[i]? = some x := by rfl) (hv : Vis X.env.scope x := by first | exact Or.inl rfl | exact Or.inr (Or.inl rfl) | exact Or.inr (Or.inr rfl)) (hd : (x == ("__debug__" : Str)) = false := by decide)
    (hcd : (x == ("__classdict__" : Str)) = false := by decide) : ER X (.Name x pos) (pk i) := pe_imp (pe_var hN hv hd hcd) fun σ H Q q => by
  obtain ⟨U, ad, sl, S, a, sl', S', s, e, k⟩ := q
  unfold pk at e
  split at e
  · rename_i sv hs
    cases e
    obtain ⟨v, h1, _⟩ := s.slt i sv hs
    exact ⟨v, h1, k ad H v s Nx.refl (.sl h1)⟩
  · cases e
end
end PS

namespace PS
open PySem PySem.Spec PyProof.Rows L2

section
variable {sl : Sl} {S : Sto} {i n : Nat} {d : D} {ob : Ob}
theorem objAt_val (h : i < sl.length) (c : Cell) : objAt (sl.set i (some (.val d))) S c = if c = .inr i then none else objAt sl S c := by
  cases c with
  | inl n => rw [if_neg (fun z => nomatch z)]; rfl
  | inr j =>
    by_cases e : j = i
    · subst e
      rw [if_pos rfl]
      simp only [objAt]
      rw [List.getElem?_set_self h]
    · rw [if_neg (fun z => e (Sum.inr.inj z))]
      simp only [objAt]
      rw [List.getElem?_set_ne (Ne.symm e)]
theorem objAt_own (h : i < sl.length) (c : Cell) : objAt (sl.set i (some (.own ob))) S c = if c = .inr i then some ob else objAt sl S c := by
  cases c with
  | inl n => rw [if_neg (fun z => nomatch z)]; rfl
  | inr j =>
    by_cases e : j = i
    · subst e
      rw [if_pos rfl]
      simp only [objAt]
      rw [List.getElem?_set_self h]
    · rw [if_neg (fun z => e (Sum.inr.inj z))]
      simp only [objAt]
      rw [List.getElem?_set_ne (Ne.symm e)]
theorem objAt_non (h : i < sl.length) (c : Cell) : objAt (sl.set i none) S c = if c = .inr i then none else objAt sl S c := by
  cases c with
  | inl n => rw [if_neg (fun z => nomatch z)]; rfl
  | inr j =>
    by_cases e : j = i
    · subst e
      rw [if_pos rfl]
      simp only [objAt]
      rw [List.getElem?_set_self h]
    · rw [if_neg (fun z => e (Sum.inr.inj z))]
      simp only [objAt]
      rw [List.getElem?_set_ne (Ne.symm e)]
theorem objAt_setS (h : n < S.length) (c : Cell) : objAt sl (S.set n ob) c = if c = .inl n then some ob else objAt sl S c := by
  cases c with
  | inr n => rw [if_neg (fun z => nomatch z)]; rfl
  | inl j =>
    by_cases e : j = n
    · subst e
      rw [if_pos rfl]
      simp only [objAt]
      rw [List.getElem?_set_self h]
    · rw [if_neg (fun z => e (Sum.inl.inj z))]
      simp only [objAt]
      rw [List.getElem?_set_ne (Ne.symm e)]
theorem objAt_push (c : Cell) : objAt sl (S ++ [ob]) c = if c = .inl S.length then some ob else objAt sl S c := by
  cases c with
  | inr n => rw [if_neg (fun z => nomatch z)]; rfl
  | inl j =>
    by_cases e : j = S.length
    · subst e
      rw [if_pos rfl]
      simp only [objAt]
      rw [List.getElem?_append_right (Nat.le_refl _), Nat.sub_self]; rfl
    · rw [if_neg (fun z => e (Sum.inl.inj z))]
      simp only [objAt]
      by_cases l : j < S.length
      · rw [List.getElem?_append_left l]
      · have l2 : S.length < j := Nat.lt_of_le_of_ne (Nat.le_of_not_lt l) (Ne.symm e)
        rw [List.getElem?_eq_none (by rw [List.length_append]; show S.length + 1 ≤ j; exact l2), List.getElem?_eq_none (Nat.le_of_lt l2)]
end

section
variable {C : Cf} {U : Addr → Prop} {ad ad' ad2 : Cell → Addr} {sl sl' sl2 : Sl} {S S' S2 : Sto} {σ σ' : L2.St} {H H' H2 : Hp}
theorem RepS.mono {W W' : Addr → Prop} {al al' : Nat → Addr} {N N' : Nat} {p p' : Addr} {sv : SV} {v : V} (e : Ext W al N H W' al' N' H') (hp : ∀ ob, sv = .own ob → p = p') (h : RepS C W al N H p sv v) : RepS C W' al' N' H' p' sv v := by
  cases h with
  | val r => exact .val (r.mono e)
  | own => rw [hp _ rfl]; exact .own

theorem had_same (ad : Cell → Addr) (c0 : Cell) (c : Cell) : ad c = if c = c0 then ad c0 else ad c := by
  by_cases e : c = c0
  · rw [if_pos e, e]
  · rw [if_neg e]
/-- the object of a cell is laid anew, or written -/
theorem Sim.put (s : Sim C U ad sl S σ H) {c0 : Cell} {p : Addr} {ob : Ob} {ho : HO} (hobj : ∀ c, objAt sl' S' c = if c = c0 then some ob else objAt sl S c) (had : ∀ c, ad' c = if c = c0 then p else ad c)
    (hp : H p = none ∨ (p = ad c0 ∧ ∃ ob0, objAt sl S c0 = some ob0)) (hN : S.length ≤ S'.length) (hc : ∀ n, n < S.length → c0 = .inl n → p = ad c0) (hm : mtb ho)
    (hr : RepH C (Wr U ad sl S) (lc ad) S.length H p ob ho) (hl : sl'.length = σ'.length)
    (hs : ∀ i sv, sl'[i]? = some (some sv) → ∃ v, σ'[i]? = some (some v) ∧ ((c0 ≠ .inr i ∧ sl[i]? = some (some sv) ∧ σ[i]? = some (some v)) ∨ (c0 = .inr i ∧ sv = .own ob ∧ v = .ref p))) :
    Sim C U ad' sl' S' σ' (upd H p ho) ∧ Nx U ad sl S H ad' sl' S' (upd H p ho) := by
  have wp : H p = none ∨ Wr U ad sl S p := hp.imp (fun h => h) fun ⟨e, ob0, h⟩ => .inr ⟨c0, ob0, h, e.symm⟩
  have nep : ∀ a o, ¬ Wr U ad sl S a → H a = some o → a ≠ p := fun a o w q z => by
    subst z
    rcases wp with z | z
    · rw [z] at q; cases q
    · exact w z
  have ext : Ext (Wr U ad sl S) (lc ad) S.length H (Wr U ad' sl' S') (lc ad') S'.length (upd H p ho) := by
    refine ⟨hN, fun n h => ?_, fun a z => ?_, fun a o w q => .inl (by rw [upd_ne (nep a o w q)]; exact q)⟩
    · show ad' (.inl n) = ad (.inl n)
      rw [had]
      split
      · rename_i e; rw [hc n h e.symm, e]
      · rfl
    · rcases z with z | ⟨c, ob1, h1, e⟩
      · exact .inl (.inl z)
      · rw [hobj] at h1
        rw [had] at e
        split at h1
        · rename_i ec
          rw [if_pos ec] at e
          subst e
          exact wp.symm
        · rename_i ec
          rw [if_neg ec] at e
          exact .inl (.inr ⟨c, ob1, h1, e⟩)
  have nu : ∀ a, U a → a ≠ p := fun a u z => by
    subst z
    rcases hp with z | ⟨e, ob0, h⟩
    · obtain ⟨ho, q, _⟩ := s.utr _ u
      rw [z] at q; cases q
    · rw [e] at u; exact s.out c0 ob0 h u
  have nc : ∀ c ob1, c ≠ c0 → objAt sl S c = some ob1 → ad c ≠ p := fun c ob1 hne h z => by
    rcases hp with q | ⟨e, ob0, h0⟩
    · obtain ⟨ho, q1, _⟩ := s.cel c ob1 h
      rw [z, q] at q1; cases q1
    · exact hne (s.inj c c0 ob1 ob0 h h0 (z.trans e))
  refine ⟨⟨hl, fun c ob1 h => ?_, fun i sv h => ?_, fun c c' ob1 ob2 h1 h2 e => ?_, fun c ob1 h => ?_, fun a u => ?_⟩, ext, fun a o u q => by rw [upd_ne (nu a u)]; exact q⟩
  · rw [hobj] at h
    rw [had]
    split at h
    · rename_i ec
      cases h
      rw [if_pos ec]
      exact ⟨ho, upd_same, hm, hr.mono ext⟩
    · rename_i ec
      rw [if_neg ec]
      obtain ⟨ho1, q1, q2, q3⟩ := s.cel c ob1 h
      exact ⟨ho1, by rw [upd_ne (nc c ob1 ec h)]; exact q1, q2, q3.mono ext⟩
  · obtain ⟨v, hv, q⟩ := hs i sv h
    refine ⟨v, hv, ?_⟩
    rcases q with ⟨ne, q1, q2⟩ | ⟨e0, e1, e2⟩
    · obtain ⟨v', r1, r2⟩ := s.slt i sv q1
      rw [q2] at r1; cases r1
      refine r2.mono ext fun ob1 e1 => ?_
      rw [had, if_neg (Ne.symm ne)]
    · subst e1 e2
      have ea : p = ad' (.inr i) := by rw [had, if_pos e0.symm]
      rw [ea]
      exact .own
  · rw [hobj] at h1 h2
    rw [had, had] at e
    by_cases a1 : c = c0
    · by_cases a2 : c' = c0
      · rw [a1, a2]
      · rw [if_pos a1, if_neg a2] at e
        rw [if_neg a2] at h2
        exact absurd e.symm (nc c' ob2 a2 h2)
    · by_cases a2 : c' = c0
      · rw [if_neg a1, if_pos a2] at e
        rw [if_neg a1] at h1
        exact absurd e (nc c ob1 a1 h1)
      · rw [if_neg a1, if_neg a2] at e
        rw [if_neg a1] at h1
        rw [if_neg a2] at h2
        exact s.inj c c' ob1 ob2 h1 h2 e
  · rw [hobj] at h
    rw [had]
    split at h
    · rename_i ec
      rw [if_pos ec]
      exact fun u => nu _ u rfl
    · rename_i ec
      rw [if_neg ec]
      exact s.out c ob1 h
  · obtain ⟨ho1, q1, q2⟩ := s.utr a u
    exact ⟨ho1, by rw [upd_ne (nu a u)]; exact q1, q2⟩

/-- fewer cells -/
theorem Sim.less (s : Sim C U ad sl S σ H) (hobj : ∀ c ob, objAt sl' S' c = some ob → objAt sl S c = some ob) (hN : S.length ≤ S'.length) (hl : sl'.length = σ'.length)
    (hs : ∀ i sv, sl'[i]? = some (some sv) → ∃ v, σ'[i]? = some (some v) ∧ RepS C (Wr U ad sl' S') (lc ad) S'.length H (ad (.inr i)) sv v) : Sim C U ad sl' S' σ' H ∧ Nx U ad sl S H ad sl' S' H := by
  have wl : ∀ a, Wr U ad sl' S' a → Wr U ad sl S a := fun a z => z.imp (fun u => u) fun ⟨c, ob, h, e⟩ => ⟨c, ob, hobj c ob h, e⟩
  have ext : Ext (Wr U ad sl S) (lc ad) S.length H (Wr U ad sl' S') (lc ad) S'.length H := ⟨hN, fun _ _ => rfl, fun a z => .inl (wl a z), fun _ _ _ q => .inl q⟩
  refine ⟨⟨hl, fun c ob h => ?_, hs, fun c c' ob ob' h h' => s.inj c c' ob ob' (hobj _ _ h) (hobj _ _ h'), fun c ob h => s.out c ob (hobj _ _ h), s.utr⟩, ext, fun _ _ _ q => q⟩
  obtain ⟨ho, q1, q2, q3⟩ := s.cel c ob (hobj c ob h)
  exact ⟨ho, q1, q2, q3.mono ext⟩
theorem Sim.slot (s : Sim C U ad sl S σ H) {i : Nat} {sv : SV} (h : sl[i]? = some (some sv)) : i < sl.length := (List.getElem?_eq_some_iff.mp h).1
theorem objAt_slot {i : Nat} {ob : Ob} (h : sl[i]? = some (some (.own ob))) : objAt sl S (.inr i) = some ob := by
  simp only [objAt]
  rw [h]
/-- an object of a cell, as a frozen one once the cell is no more -/
theorem fz_rep {W : Addr → Prop} {al : Nat → Addr} {N : Nat} {a : Addr} {ob : Ob} {ho : HO} (w : ¬ W a) (h : H a = some ho) (r : RepH C W al N H a ob ho) : Rep C W al N H ob.fz (.ref a) := by
  cases ob with
  | lst ds => exact .lst w (.inl h) r
  | dct t kvs => exact .dct w (.inl h) r
  | ins c fs => exact .ins w h r
/-- an own object is no more written -/
theorem Sim.frz (s : Sim C U ad sl S σ H) {i : Nat} {ob : Ob} (h : sl[i]? = some (some (.own ob))) :
    Sim C U ad (sl.set i (some (.val ob.fz))) S σ H ∧ Nx U ad sl S H ad (sl.set i (some (.val ob.fz))) S H ∧ Rep C (Wr U ad (sl.set i (some (.val ob.fz))) S) (lc ad) S.length H ob.fz (.ref (ad (.inr i))) ∧ σ[i]? = some (some (.ref (ad (.inr i)))) := by
  have hi := s.slot h
  have ho := objAt_slot (S := S) h
  have hob : ∀ c ob', objAt (sl.set i (some (.val ob.fz))) S c = some ob' → c ≠ .inr i ∧ objAt sl S c = some ob' := fun c ob' q => by
    rw [objAt_val hi] at q
    split at q
    · cases q
    · exact ⟨by assumption, q⟩
  have wl : ∀ a, Wr U ad (sl.set i (some (.val ob.fz))) S a → Wr U ad sl S a := fun a z => z.imp (fun u => u) fun ⟨c, ob', q, e⟩ => ⟨c, ob', (hob c ob' q).2, e⟩
  have ext : Ext (Wr U ad sl S) (lc ad) S.length H (Wr U ad (sl.set i (some (.val ob.fz))) S) (lc ad) S.length H := ⟨Nat.le_refl _, fun _ _ => rfl, fun a z => .inl (wl a z), fun _ _ _ q => .inl q⟩
  have nw : ¬ Wr U ad (sl.set i (some (.val ob.fz))) S (ad (.inr i)) := fun z => by
    rcases z with z | ⟨c, ob', q, e⟩
    · exact s.out _ _ ho z
    · exact (hob c ob' q).1 (s.inj _ _ _ _ (hob c ob' q).2 ho e)
  obtain ⟨o, q1, q2, q3⟩ := s.cel _ _ ho
  obtain ⟨v, v1, v2⟩ := s.slt _ _ h
  cases v2
  have rep := fz_rep nw q1 (q3.mono ext)
  refine ⟨?_, ⟨ext, fun _ _ _ q => q⟩, rep, v1⟩
  refine (s.less (σ' := σ) (fun c ob' q => (hob c ob' q).2) (Nat.le_refl _) (by simpa using s.len) fun j sv q => ?_).1
  by_cases e : j = i
  · subst e
    rw [List.getElem?_set_self hi] at q
    cases q
    exact ⟨_, v1, .val rep⟩
  · rw [List.getElem?_set_ne (Ne.symm e)] at q
    obtain ⟨v, r1, r2⟩ := s.slt j sv q
    exact ⟨v, r1, r2.mono ext fun _ _ => rfl⟩
/-- a value is stored in a slot -/
theorem Sim.setVal (s : Sim C U ad sl S σ H) {i : Nat} {d : D} {v : V} (hi : i < sl.length) (r : Rep C (Wr U ad sl S) (lc ad) S.length H d v) :
    Sim C U ad (sl.set i (some (.val d))) S (σ.set i (some v)) H ∧ Nx U ad sl S H ad (sl.set i (some (.val d))) S H := by
  have hob : ∀ c ob', objAt (sl.set i (some (.val d))) S c = some ob' → objAt sl S c = some ob' := fun c ob' q => by
    rw [objAt_val hi] at q
    split at q
    · cases q
    · exact q
  have wl : ∀ a, Wr U ad (sl.set i (some (.val d))) S a → Wr U ad sl S a := fun a z => z.imp (fun u => u) fun ⟨c, ob', q, e⟩ => ⟨c, ob', hob c ob' q, e⟩
  have ext : Ext (Wr U ad sl S) (lc ad) S.length H (Wr U ad (sl.set i (some (.val d))) S) (lc ad) S.length H := ⟨Nat.le_refl _, fun _ _ => rfl, fun a z => .inl (wl a z), fun _ _ _ q => .inl q⟩
  have hi' : i < σ.length := by rw [← s.len]; exact hi
  refine s.less hob (Nat.le_refl _) (by simpa using s.len) fun j sv q => ?_
  by_cases e : j = i
  · subst e
    rw [List.getElem?_set_self hi] at q
    cases q
    exact ⟨v, by rw [List.getElem?_set_self hi'], .val (r.mono ext)⟩
  · rw [List.getElem?_set_ne (Ne.symm e)] at q
    obtain ⟨v', r1, r2⟩ := s.slt j sv q
    exact ⟨v', by rw [List.getElem?_set_ne (Ne.symm e)]; exact r1, r2.mono ext fun _ _ => rfl⟩
/-- a new object goes into a slot, as its own -/
theorem Sim.setOwn (s : Sim C U ad sl S σ H) {i : Nat} {ob : Ob} {p : Addr} {ho : HO} (hi : i < sl.length) (hp : H p = none) (hm : mtb ho) (hr : RepH C (Wr U ad sl S) (lc ad) S.length H p ob ho) :
    ∃ ad', Sim C U ad' (sl.set i (some (.own ob))) S (σ.set i (some (.ref p))) (upd H p ho) ∧ Nx U ad sl S H ad' (sl.set i (some (.own ob))) S (upd H p ho) := by
  have hi' : i < σ.length := by rw [← s.len]; exact hi
  refine ⟨fun c => if c = .inr i then p else ad c, s.put (c0 := .inr i) (fun c => objAt_own hi c) (fun _ => rfl) (.inl hp) (Nat.le_refl _) (fun _ _ z => nomatch z) hm hr (by simpa using s.len) fun j sv q => ?_⟩
  by_cases e : j = i
  · subst e
    rw [List.getElem?_set_self hi] at q
    cases q
    exact ⟨.ref p, by rw [List.getElem?_set_self hi'], .inr ⟨rfl, rfl, rfl⟩⟩
  · rw [List.getElem?_set_ne (Ne.symm e)] at q
    obtain ⟨v', r1, r2⟩ := s.slt j sv q
    exact ⟨v', by rw [List.getElem?_set_ne (Ne.symm e)]; exact r1, .inl ⟨fun z => e (Sum.inr.inj z).symm, q, r1⟩⟩
/-- a new object goes into the store -/
theorem Sim.box (s : Sim C U ad sl S σ H) {ob : Ob} {p : Addr} {ho : HO} (hp : H p = none) (hm : mtb ho) (hr : RepH C (Wr U ad sl S) (lc ad) S.length H p ob ho) :
    ∃ ad', Sim C U ad' sl (S ++ [ob]) σ (upd H p ho) ∧ Nx U ad sl S H ad' sl (S ++ [ob]) (upd H p ho) ∧ ad' (.inl S.length) = p := by
  refine ⟨fun c => if c = .inl S.length then p else ad c, ?_⟩
  have h := s.put (c0 := .inl S.length) (sl' := sl) (S' := S ++ [ob]) (ad' := fun c => if c = .inl S.length then p else ad c) (σ' := σ) (fun c => objAt_push c) (fun _ => rfl) (.inl hp) (by rw [List.length_append]; exact Nat.le_add_right _ _)
    (fun n h z => absurd (Sum.inl.inj z) (Nat.ne_of_gt h)) hm hr s.len fun j sv q => by
      obtain ⟨v', r1, r2⟩ := s.slt j sv q
      exact ⟨v', r1, .inl ⟨(fun z => nomatch z), q, r1⟩⟩
  exact ⟨h.1, h.2, if_pos rfl⟩
/-- the object of a slot is written -/
theorem Sim.wrO (s : Sim C U ad sl S σ H) {i : Nat} {ob ob' : Ob} {ho : HO} (h : sl[i]? = some (some (.own ob))) (hm : mtb ho) (hr : RepH C (Wr U ad sl S) (lc ad) S.length H (ad (.inr i)) ob' ho) :
    Sim C U ad (sl.set i (some (.own ob'))) S σ (upd H (ad (.inr i)) ho) ∧ Nx U ad sl S H ad (sl.set i (some (.own ob'))) S (upd H (ad (.inr i)) ho) := by
  have hi := s.slot h
  obtain ⟨v, v1, v2⟩ := s.slt _ _ h
  cases v2
  refine s.put (c0 := .inr i) (fun c => objAt_own hi c) (had_same ad _) (.inr ⟨rfl, ob, objAt_slot h⟩) (Nat.le_refl _) (fun _ _ z => nomatch z) hm hr (by simpa using s.len) fun j sv q => ?_
  by_cases e : j = i
  · subst e
    rw [List.getElem?_set_self hi] at q
    cases q
    exact ⟨_, v1, .inr ⟨rfl, rfl, rfl⟩⟩
  · rw [List.getElem?_set_ne (Ne.symm e)] at q
    obtain ⟨v', r1, r2⟩ := s.slt j sv q
    exact ⟨v', r1, .inl ⟨fun z => e (Sum.inr.inj z).symm, q, r1⟩⟩
/-- an object of the store is written -/
theorem Sim.wrS (s : Sim C U ad sl S σ H) {n : Nat} {ob ob' : Ob} {ho : HO} (h : S[n]? = some ob) (hm : mtb ho) (hr : RepH C (Wr U ad sl S) (lc ad) S.length H (ad (.inl n)) ob' ho) :
    Sim C U ad sl (S.set n ob') σ (upd H (ad (.inl n)) ho) ∧ Nx U ad sl S H ad sl (S.set n ob') (upd H (ad (.inl n)) ho) := by
  have hi : n < S.length := (List.getElem?_eq_some_iff.mp h).1
  refine s.put (c0 := .inl n) (fun c => objAt_setS hi c) (had_same ad _) (.inr ⟨rfl, ob, h⟩) (by simp) (fun _ _ e => rfl) hm hr s.len fun j sv q => ?_
  obtain ⟨v', r1, r2⟩ := s.slt j sv q
  exact ⟨v', r1, .inl ⟨(fun z => nomatch z), q, r1⟩⟩
end

section
variable {X : Cx} {e e2 : Expr} {pos : Pos}
theorem ee_vr (i : Nat) {x : Str} {pos : Pos} (hN : X.N[i]? = some x := by rfl) (hv : Vis X.env.scope x := by first | exact Or.inl rfl | exact Or.inr (Or.inl rfl) | exact Or.inr (Or.inr rfl)) (hd : (x == ("__debug__" : Str)) = false := by decide)
    (hcd : (x == ("__classdict__" : Str)) = false := by decide) : EE X (.Name x pos) (vr i) := pe_imp (pe_var hN hv hd hcd) fun σ H Q q => by
  obtain ⟨U, ad, sl, S, a, sl', S', s, e, k⟩ := q
  unfold vr at e
  split at e
  · rename_i d hs
    cases e
    obtain ⟨v, h1, h2⟩ := s.slt i _ hs
    cases h2 with
    | val r => exact ⟨v, h1, k ad H v s Nx.refl r⟩
  · rename_i ob hs
    cases e
    obtain ⟨h1, h2, h3, h4⟩ := s.frz hs
    exact ⟨_, h4, k ad H _ h1 h2 h3⟩
  · cases e
theorem ee_int {i j pos} : EE X (.Constant (.int i) j pos) (cs (.int i)) := pe_imp pe_int fun σ H Q q => by
  obtain ⟨U, ad, sl, S, a, sl', S', s, e, k⟩ := q
  cases e
  exact k ad H _ s Nx.refl (.int i)
theorem ee_bl {b j pos} : EE X (.Constant (.bool b) j pos) (cs (.bl b)) := pe_imp pe_bl fun σ H Q q => by
  obtain ⟨U, ad, sl, S, a, sl', S', s, e, k⟩ := q
  cases e
  exact k ad H _ s Nx.refl (.bl b)
theorem ee_non {j pos} : EE X (.Constant .none j pos) (cs .non) := pe_imp pe_non fun σ H Q q => by
  obtain ⟨U, ad, sl, S, a, sl', S', s, e, k⟩ := q
  cases e
  exact k ad H _ s Nx.refl .non
theorem ee_str {x j pos} : EE X (.Constant (.str x) j pos) (cs (.str x)) := pe_imp pe_str fun σ H Q q => by
  obtain ⟨U, ad, sl, S, a, sl', S', s, e, k⟩ := q
  cases e
  exact k ad H _ s Nx.refl (.str x)
/-- a module's name: a constant, a class, a def -/
theorem ee_glob {x : Str} {d : D} {u : Value} {v : V} {pos : Pos} (hg : Gl X x) (hm : X.mg x = some u) (r : RelV v u) (hd : ∀ U ad sl S σ H, Sim (cf X) U ad sl S σ H → Rep (cf X) (Wr U ad sl S) (lc ad) S.length H d v)
    (hdb : (x == ("__debug__" : Str)) = false := by decide) : EE X (.Name x pos) (cs d) := pe_imp (pe_glob hg hm r hdb) fun σ H Q q => by
  obtain ⟨U, ad, sl, S, a, sl', S', s, e, k⟩ := q
  cases e
  exact k ad H _ s Nx.refl (hd _ _ _ _ _ _ s)
end
end PS

namespace PS
open PySem PySem.Spec PyProof.Rows L2

/-! ### looking at an operand -/
def vwD (S : Sto) : D → Option D
  | .loc n => (S[n]?).map Ob.fz
  | .pr _ => none
  | d => some d
def vw (sl : Sl) (S : Sto) : Rf → Option D
  | .d d => vwD S d
  | .sl i => match sl[i]? with
    | some (some (.val d)) => vwD S d
    | some (some (.own ob)) => some ob.fz
    | _ => none
section
variable (C : Cf) (W : Addr → Prop) (al : Nat → Addr) (N : Nat) (H : Hp)
/-- what is looked at: an object, frozen or not -/
inductive RepV : D → V → Prop
  | non : RepV .non .non
  | bl (b : Bool) : RepV (.bl b) (.bl b)
  | int (i : Int) : RepV (.int i) (.int i)
  | str (x : Str) : RepV (.str x) (.str x)
  | tup {a : Addr} {ds : List D} {vs : List V} : SqT C.K H a vs → Reps C W al N H ds vs → Rep C W al N H (.tup ds) (.ref a) → RepV (.tup ds) (.ref a)
  | lst {a : Addr} {ds : List D} {vs : List V} : SqL C.K H a vs → Reps C W al N H ds vs → RepV (.lst ds) (.ref a)
  | dct {a : Addr} {t : Bool} {kvs : List (D × D)} {ho : HO} : Rd H a ho → RepH C W al N H a (.dct t kvs) ho → RepV (.dct t kvs) (.ref a)
  | ins {a : Addr} {c : Str} {fs : List (Str × D)} {ho : HO} : H a = some ho → RepH C W al N H a (.ins c fs) ho → RepV (.ins c fs) (.ref a)
  | fn {x : Str} {v : V} {u : Value} : C.mg x = some u → RelV v u → RepV (.fn x) v
end
section
variable {C : Cf} {U W : Addr → Prop} {al : Nat → Addr} {N : Nat} {ad : Cell → Addr} {sl : Sl} {S : Sto} {σ : L2.St} {H : Hp}
theorem repV_ob {a : Addr} {ob : Ob} {ho : HO} (h : H a = some ho) (r : RepH C W al N H a ob ho) : RepV C W al N H ob.fz (.ref a) := by
  cases ob with
  | lst ds => cases r with | lst r => exact .lst (.inl (.inl h)) r
  | dct t kvs => exact .dct (.inl h) r
  | ins c fs => exact .ins h r
theorem Sim.viewD (s : Sim C U ad sl S σ H) {d d' : D} {v : V} (r : Rep C (Wr U ad sl S) (lc ad) S.length H d v) (h : vwD S d = some d') : RepV C (Wr U ad sl S) (lc ad) S.length H d' v := by
  cases r with
  | non => cases h; exact .non
  | bl b => cases h; exact .bl b
  | int i => cases h; exact .int i
  | str x => cases h; exact .str x
  | tup w h1 r => cases h; exact .tup (.inl h1.rd) r (.tup w h1 r)
  | pr w h1 r => cases h
  | ktup h1 r => cases h; exact .tup h1.sq r (.ktup h1 r)
  | lst w h1 r => cases h; cases r with | lst r => exact .lst (.inl h1) r
  | klst h1 r => cases h; exact .lst h1.sq r
  | dct w h1 r => cases h; exact .dct h1 r
  | ins w h1 r => cases h; exact .ins h1 r
  | fn h1 r => cases h; exact .fn h1 r
  | @loc n hn =>
    have e : S[n]? = some S[n] := List.getElem?_eq_getElem hn
    simp only [vwD, e, Option.map_some, Option.some.injEq] at h
    subst h
    obtain ⟨ho, q1, _, q3⟩ := s.cel (.inl n) S[n] e
    exact repV_ob q1 q3
theorem Sim.view (s : Sim C U ad sl S σ H) {r : Rf} {d : D} {v : V} (q : RepR C (Wr U ad sl S) (lc ad) S.length H σ r v) (h : vw sl S r = some d) : RepV C (Wr U ad sl S) (lc ad) S.length H d v := by
  cases q with
  | d q => exact s.viewD q h
  | @sl i v q =>
    simp only [vw] at h
    split at h
    · rename_i d0 hs
      obtain ⟨v', h1, h2⟩ := s.slt i _ hs
      rw [q] at h1; cases h1
      cases h2 with
      | val r => exact s.viewD r h
    · rename_i ob hs
      cases h
      obtain ⟨v', h1, h2⟩ := s.slt i _ hs
      rw [q] at h1; cases h1
      cases h2
      obtain ⟨ho, q1, _, q3⟩ := s.cel (.inr i) ob (objAt_slot hs)
      exact repV_ob q1 q3
    · cases h
end

/-! ### plain data -/
mutual
def py : D → PyData
  | .bl b => .bool b
  | .int i => .int i
  | .str x => .str x
  | .tup ds => .tuple (pys ds)
  | .lst ds => .list (pys ds)
  | _ => .none
def pys : List D → List PyData
  | [] => []
  | d :: ds => py d :: pys ds
end
mutual
def pl : D → Bool
  | .non => true
  | .bl _ => true
  | .int _ => true
  | .str _ => true
  | .tup ds => pls ds
  | .lst ds => pls ds
  | _ => false
def pls : List D → Bool
  | [] => true
  | d :: ds => pl d && pls ds
end
mutual
theorem plain_py : ∀ d : D, (py d).plain = true
  | .non => rfl
  | .bl _ => rfl
  | .int _ => rfl
  | .str _ => rfl
  | .tup ds => by rw [py, PyData.plain]; exact plain_pys ds
  | .lst ds => by rw [py, PyData.plain]; exact plain_pys ds
  | .dct _ _ => rfl
  | .ins _ _ => rfl
  | .loc _ => rfl
  | .fn _ => rfl
  | .pr _ => rfl
theorem plain_pys : ∀ ds : List D, PyData.plainAll (pys ds) = true
  | [] => rfl
  | d :: ds => by rw [pys, PyData.plainAll, plain_py d, plain_pys ds]; rfl
end
section
variable {C : Cf} {U W : Addr → Prop} {al : Nat → Addr} {N : Nat} {ad : Cell → Addr} {sl : Sl} {S : Sto} {σ : L2.St} {H : Hp}
mutual
theorem Rep.dp : ∀ {d : D} {v : V}, Rep C W al N H d v → pl d = true → Dp C.K H v (py d)
  | _, _, .non, _ => .non
  | _, _, .bl b, _ => .bl b
  | _, _, .int i, _ => .int i
  | _, _, .str x, _ => .str x
  | _, _, .tup w h r, p => by rw [py]; exact .tup (.inl h.rd) (Reps.dp r p)
  | _, _, .pr w h r, p => by simp [pl] at p
  | _, _, .ktup h r, p => by rw [py]; exact .tup h.sq (Reps.dp r p)
  | _, _, .lst w h r, p => by
    rw [py]
    cases r with | lst r => exact .lst (.inl h) (Reps.dp r p)
  | _, _, .klst h r, p => by rw [py]; exact .lst h.sq (Reps.dp r p)
  | _, _, .dct w h r, p => by simp [pl] at p
  | _, _, .ins w h r, p => by simp [pl] at p
  | _, _, .loc h, p => by simp [pl] at p
  | _, _, .fn h r, p => by simp [pl] at p
theorem Reps.dp : ∀ {ds : List D} {vs : List V}, Reps C W al N H ds vs → pls ds = true → DpAll C.K H vs (pys ds)
  | _, _, .nil, _ => by rw [pys]; exact .nil
  | _, _, .cons r t, p => by
    rw [pls, Bool.and_eq_true] at p
    rw [pys]
    exact .cons (Rep.dp r p.1) (Reps.dp t p.2)
end
theorem RepV.dp {d : D} {v : V} (r : RepV C W al N H d v) (p : pl d = true) : Dp C.K H v (py d) := by
  cases r with
  | non => exact .non
  | bl b => exact .bl b
  | int i => exact .int i
  | str x => exact .str x
  | tup h r _ => rw [py]; exact .tup h (r.dp p)
  | lst h r => rw [py]; exact .lst h (r.dp p)
  | dct h r => simp [pl] at p
  | ins h r => simp [pl] at p
  | fn h r => simp [pl] at p
end

/-! ### operators -/
/-- an operator on looked-at operands: nothing written, a value -/
abbrev F2 := Sl → Sto → Rf → Rf → Option D
abbrev F1 := Sl → Sto → Rf → Option D
def m2 (f : F2) (ma mb : M Rf) : M D := mBind ma fun x => mBind mb fun y => fun sl S => (f sl S x y).map fun d => (d, sl, S)
def m1 (f : F1) (ma : M Rf) : M D := mBind ma fun x => fun sl S => (f sl S x).map fun d => (d, sl, S)
def OpS (C : Cf) (f : F2) (r : R2) : Prop := ∀ (U : Addr → Prop) (ad : Cell → Addr) (sl : Sl) (S : Sto) (σ : L2.St) (H : Hp) (x y : Rf) (vx vy : V) (d : D) (Q : VK), Sim C U ad sl S σ H →
  RepR C (Wr U ad sl S) (lc ad) S.length H σ x vx → RepR C (Wr U ad sl S) (lc ad) S.length H σ y vy → f sl S x y = some d → tY rD C U ad sl S H d sl S σ Q → r vx vy H Q
def UnS (C : Cf) (f : F1) (r : V → Hp → VK → Prop) : Prop := ∀ (U : Addr → Prop) (ad : Cell → Addr) (sl : Sl) (S : Sto) (σ : L2.St) (H : Hp) (x : Rf) (vx : V) (d : D) (Q : VK), Sim C U ad sl S σ H →
  RepR C (Wr U ad sl S) (lc ad) S.length H σ x vx → f sl S x = some d → tY rD C U ad sl S H d sl S σ Q → r vx H Q
theorem tX_m2 {C : Cf} {f : F2} {r : R2} {ma mb : M Rf} (hf : OpS C f r) {σ : L2.St} {H : Hp} {Q : VK} (h : tX rD C (m2 f ma mb) σ H Q) : tOp r (tX rR C ma) (tX rR C mb) σ H Q := by
  refine tX_bind h fun U ad sl S x d sl' S' H1 vx s rx e q => ?_
  obtain ⟨y, sl1, S1, e1, e2⟩ := mBind_some e
  refine ⟨U, ad, sl, S, y, sl1, S1, s, e1, fun ad1 H2 vy s2 n2 ry => ?_⟩
  cases ef : f sl1 S1 x y with
  | none => rw [ef] at e2; cases e2
  | some d' =>
    rw [ef] at e2
    cases e2
    exact hf U ad1 _ _ σ H2 x y vx vy d Q s2 (rR_mono n2.ext rx) ry ef fun ad3 H3 v s3 n3 r3 => q ad3 H3 v s3 (n2.trans n3) r3
theorem tX_m1 {C : Cf} {f : F1} {r : V → Hp → VK → Prop} {ma : M Rf} (hf : UnS C f r) {σ : L2.St} {H : Hp} {Q : VK} (h : tX rD C (m1 f ma) σ H Q) : tUn r (tX rR C ma) σ H Q := by
  refine tX_bind h fun U ad sl S x d sl' S' H1 vx s rx e q => ?_
  cases ef : f sl S x with
  | none => rw [ef] at e; cases e
  | some d' =>
    rw [ef] at e
    cases e
    exact hf U ad sl S σ H1 x vx d Q s rx ef q
def mB (m : M D) : M Bool := mBind m fun d => fun sl S => match d with
  | .bl b => some (b, sl, S)
  | _ => none
theorem tX_mB {C : Cf} {m : M D} {σ : L2.St} {H : Hp} {Q : Bool → Hp → Prop} (h : tX rB C (mB m) σ H Q) : tTest (tX rD C m) σ H Q := by
  refine tX_bind h fun U ad sl S d b sl' S' H1 v s r e q => ?_
  cases d <;> cases e
  cases r
  exact ⟨_, rfl, q ad H1 _ s Nx.refl rfl⟩

section
variable {X : Cx} {a b e : Expr} {pos : Pos} {ma mb : M Rf} {f : F2} {r : R2}
theorem ee_op {op : Operator} (ho : OpR X (binaryOp op) r ∧ OpS (cf X) f r) (ha : ER X a ma) (hb : ER X b mb) : EE X (.BinOp a op b pos) (m2 f ma mb) := pe_imp (pe_op ho.1 ha hb) fun _ _ _ h => tX_m2 ho.2 h
theorem ee_un {op : UnaryOp} {f : F1} {r : V → Hp → VK → Prop} (ho : UnR X (unaryOp op) r ∧ UnS (cf X) f r) (ha : ER X a ma) : EE X (.UnaryOp op a pos) (m1 f ma) := pe_imp (pe_un ho.1 ha) fun _ _ _ h => tX_m1 ho.2 h
theorem ee_cmp {op : CmpOp} (ho : OpR X (compareOp op) r ∧ OpS (cf X) f r) (ha : ER X a ma) (hb : ER X b mb) (hm : behindInMarks op b = false := by first | exact nomark _ | with_unfolding_all rfl) : EE X (.Compare a [op] [b] pos) (m2 f ma mb) := pe_imp (pe_cmpR ho.1 ha hb hm) fun _ _ _ h => tX_m2 ho.2 h
theorem et_cmp {op : CmpOp} (ho : OpR X (compareOp op) r ∧ OpS (cf X) f r) (ha : ER X a ma) (hb : ER X b mb) (hm : behindInMarks op b = false := by first | exact nomark _ | with_unfolding_all rfl) : ET X (.Compare a [op] [b] pos) (mB (m2 f ma mb)) :=
  pt_imp (pt_cmpR ho.1 ha hb hm) fun σ H Q h => by
    obtain ⟨U, ad, sl, S, c, sl', S', s, e, q⟩ := h
    obtain ⟨d, sl1, S1, e1, e2⟩ := mBind_some e
    refine tX_m2 ho.2 ⟨U, ad, sl, S, d, sl1, S1, s, e1, fun ad1 H1 v s1 n1 r1 => ?_⟩
    cases d <;> cases e2
    cases r1
    exact ⟨_, rfl, q ad1 H1 _ s1 n1 rfl⟩
theorem et_val {m : M D} (h : EE X e m) (he : ∀ whole, isTrue e X.env whole = (do let v ← whole; standAt e.pos; holding [v] (truthy v)) := by intro _; rfl) : ET X e (mB m) := pt_imp (pt_val h he) fun _ _ _ q => tX_mB q

/-! ### and, or, not, if-else -/
def tAnd (m n : M Bool) : M Bool := mBind m fun c => if c = true then n else mPure false
def tOr (m n : M Bool) : M Bool := mBind m fun c => if c = true then mPure true else n
def tNot (m : M Bool) : M Bool := mBind m fun c => mPure (!c)
def vAnd (m n : M D) : M D := mBind (mB m) fun c => if c = true then n else cs (.bl false)
def vOr (m n : M D) : M D := mBind (mB m) fun c => if c = true then cs (.bl true) else n
def vNot (m : M D) : M D := mBind (mB m) fun c => cs (.bl (!c))
def vIf (t : M Bool) (m n : M D) : M D := mBind t fun c => if c = true then m else n
variable {rest : List Expr} {m n : M Bool} {md nd : M D}
theorem ew_and1 (h : ET X a m) : EW X (.BoolOp .And [a] pos) m := pw_and1 h
theorem ew_or1 (h : ET X a m) : EW X (.BoolOp .Or [a] pos) m := pw_or1 h
theorem ew_and (h : ET X a m) (k : EW X (.BoolOp .And (b :: rest) pos) n) : EW X (.BoolOp .And (a :: b :: rest) pos) (tAnd m n) := pw_imp (pw_and h k) fun σ H Q q => by
  refine tX_bind q fun U ad sl S c b' sl' S' H1 c' s r e k => ?_
  cases r
  cases c with
  | true => exact ⟨U, ad, sl, S, b', sl', S', s, e, k⟩
  | false => cases e; exact k ad H1 _ s Nx.refl rfl
theorem ew_or (h : ET X a m) (k : EW X (.BoolOp .Or (b :: rest) pos) n) : EW X (.BoolOp .Or (a :: b :: rest) pos) (tOr m n) := pw_imp (pw_or h k) fun σ H Q q => by
  refine tX_bind q fun U ad sl S c b' sl' S' H1 c' s r e k => ?_
  cases r
  cases c with
  | false => exact ⟨U, ad, sl, S, b', sl', S', s, e, k⟩
  | true => cases e; exact k ad H1 _ s Nx.refl rfl
theorem et_w (h : EW X e m) : ET X e m := PW.pt h
theorem et_not (h : ET X a m) : ET X (.UnaryOp .Not a pos) (tNot m) := pt_imp (pt_not h) fun σ H Q q => by
  refine tX_bind q fun U ad sl S c b' sl' S' H1 c' s r e k => ?_
  cases r
  cases e
  exact k ad H1 _ s Nx.refl rfl
theorem ee_one {op} (h : EE X a md) : EE X (.BoolOp op [a] pos) md := pe_one h
theorem ee_and (h : EE X a md) (k : EE X (.BoolOp .And (b :: rest) pos) nd) : EE X (.BoolOp .And (a :: b :: rest) pos) (vAnd md nd) := pe_imp (pe_and h k) fun σ H Q q => by
  obtain ⟨U, ad, sl, S, d, sl', S', s, e, q⟩ := q
  obtain ⟨c, sl1, S1, e1, e2⟩ := mBind_some e
  obtain ⟨d1, sl2, S2, e3, e4⟩ := mBind_some e1
  refine ⟨U, ad, sl, S, d1, sl2, S2, s, e3, fun ad1 H1 v s1 n1 r1 => ?_⟩
  cases d1 <;> cases e4
  cases r1
  refine ⟨_, rfl, ?_⟩
  cases c with
  | true => exact ⟨U, ad1, sl1, S1, d, sl', S', s1, e2, fun ad2 H2 z s2 n2 r2 => q ad2 H2 z s2 (n1.trans n2) r2⟩
  | false => cases e2; exact q ad1 H1 _ s1 n1 (.bl false)
theorem ee_or (h : EE X a md) (k : EE X (.BoolOp .Or (b :: rest) pos) nd) : EE X (.BoolOp .Or (a :: b :: rest) pos) (vOr md nd) := pe_imp (pe_or h k) fun σ H Q q => by
  obtain ⟨U, ad, sl, S, d, sl', S', s, e, q⟩ := q
  obtain ⟨c, sl1, S1, e1, e2⟩ := mBind_some e
  obtain ⟨d1, sl2, S2, e3, e4⟩ := mBind_some e1
  refine ⟨U, ad, sl, S, d1, sl2, S2, s, e3, fun ad1 H1 v s1 n1 r1 => ?_⟩
  cases d1 <;> cases e4
  cases r1
  refine ⟨_, rfl, ?_⟩
  cases c with
  | false => exact ⟨U, ad1, sl1, S1, d, sl', S', s1, e2, fun ad2 H2 z s2 n2 r2 => q ad2 H2 z s2 (n1.trans n2) r2⟩
  | true => cases e2; exact q ad1 H1 _ s1 n1 (.bl true)
theorem ee_not (h : EE X a md) : EE X (.UnaryOp .Not a pos) (vNot md) := pe_imp (pe_not h) fun σ H Q q => by
  obtain ⟨U, ad, sl, S, d, sl', S', s, e, q⟩ := q
  obtain ⟨c, sl1, S1, e1, e2⟩ := mBind_some e
  obtain ⟨d1, sl2, S2, e3, e4⟩ := mBind_some e1
  refine ⟨U, ad, sl, S, d1, sl2, S2, s, e3, fun ad1 H1 v s1 n1 r1 => ?_⟩
  cases d1 <;> cases e4
  cases r1
  cases e2
  exact ⟨_, rfl, q ad1 H1 _ s1 n1 (.bl _)⟩
theorem ee_if {c : Expr} (hc : ET X c m) (ha : EE X a md) (hb : EE X b nd) : EE X (.IfExp c a b pos) (vIf m md nd) := pe_imp (pe_ifExp hc ha hb) fun σ H Q q => by
  refine tX_bind q fun U ad sl S c b' sl' S' H1 c' s r e k => ?_
  cases r
  cases c with
  | true => exact ⟨U, ad, sl, S, b', sl', S', s, e, k⟩
  | false => exact ⟨U, ad, sl, S, b', sl', S', s, e, k⟩
end
end PS

namespace PS
open PySem PySem.Spec PyProof.Rows L2

section
variable {C : Cf} {U : Addr → Prop} {ad : Cell → Addr} {sl : Sl} {S : Sto} {σ : L2.St} {H : Hp} {Q : VK} {ds : List D} {vs : List V} {p : Addr}
theorem fin0 {d : D} {v : V} (s : Sim C U ad sl S σ H) (q : tY rD C U ad sl S H d sl S σ Q) (r : Rep C (Wr U ad sl S) (lc ad) S.length H d v) : Q v H := q ad H v s Nx.refl r
theorem finT (s : Sim C U ad sl S σ H) (q : tY rD C U ad sl S H (.tup ds) sl S σ Q) (r : Reps C (Wr U ad sl S) (lc ad) S.length H ds vs) (hp : H p = none) {o : Obj} (ho : o.dict = none) : Q (.ref p) (upd H p (.frz o (.tup vs))) := by
  obtain ⟨s', n⟩ := s.laid (o := .frz o (.tup vs)) hp
  exact q ad _ _ s' n (.tup (s.fresh hp) ⟨o, ho, upd_same⟩ (r.mono n.ext))
theorem finL (s : Sim C U ad sl S σ H) (q : tY rD C U ad sl S H (.lst ds) sl S σ Q) (r : Reps C (Wr U ad sl S) (lc ad) S.length H ds vs) (hp : H p = none) : Q (.ref p) (upd H p (.lst vs)) := by
  obtain ⟨s', n⟩ := s.laid (o := .lst vs) hp
  exact q ad _ _ s' n (.lst (s.fresh hp) (.inl upd_same) (.lst (r.mono n.ext)))
end

/-! ### new tuples, known to the object -/
def tOb (its : List Value) : Obj := { cls := .type "tuple", data := .seq its.toArray }
theorem Inv.tnew {X : Cx} {pins : List (Addr × Obj)} {σ : L2.St} {H : Hp} {s : Shared} {xs : List V} {its : List Value} {t' : Nat} (I : Inv X pins σ H s) (hv : Vals xs its) (hz : xs.length ≤ sizeLine) :
    Inv X pins σ (upd H s.heap.objs.size (.frz (tOb its) (.tup xs))) { s with heap := s.heap.push (tOb its), toks := t' } :=
  I.laid (fun _ _ q => Heap.get?_push_of_some _ q) (Nat.le_refl _) ⟨Heap.get?_push_size _ rfl, hz, its, hv, _, Heap.get?_push_size _ rfl, rfl, _, rfl⟩
def tTupF (t : TA) : TE := fun σ H Q => t σ H fun xs H1 => xs.length ≤ sizeLine ∧ ∀ (p : Addr) (o : Obj), H1 p = none → o.dict = none → Q (.ref p) (upd H1 p (.frz o (.tup xs)))
theorem pe_tupF {X : Cx} {es : List Expr} {x1} {t : TA} {pos : Pos} (h : PA X es t) : PE X (.Tuple es x1 pos) (tTupF t) := by
  refine ⟨fun pins s σ H Q I hq => ?_⟩
  refine wpAny_Tuple_spliced (thn (h.run pos pins s σ H _ I hq) fun us s1 ⟨xs, H1, I1, r, z, q⟩ => ⟨by rw [← r.length]; exact z, ?_⟩)
  exact ⟨.ref s1.heap.objs.size, _, Inv.tnew (t' := s1.toks) I1 r z, rfl, q _ _ (I1.hok.fresh (Nat.le_refl _)) rfl⟩
def rCatF (K : PySem.W.Frag) : R2 := fun x y H Q => ∃ a b xs ys, x = .ref a ∧ y = .ref b ∧ SqT K H a xs ∧ SqT K H b ys ∧ xs.length + ys.length ≤ sizeLine ∧
  (xs = [] → Q (.ref b) H) ∧ (xs ≠ [] → ys = [] → Q (.ref a) H) ∧ (xs ≠ [] → ys ≠ [] → ∀ (p : Addr) (o : Obj), H p = none → o.dict = none → Q (.ref p) (upd H p (.frz o (.tup (xs ++ ys)))))
theorem op_catF {X : Cx} : OpR X (binaryOp .Add) (rCatF X.K) := by
  intro pins s σ H x y v u Q I rx ry h
  obtain ⟨a, b, xs, ys, rfl, rfl, ha, hb, hz, q0, q1, q2⟩ := h
  cases rx
  cases ry
  obtain ⟨its, r1, p1, _⟩ := I.tuple ha
  obtain ⟨its2, r2, p2, _⟩ := I.tuple hb
  by_cases hx : xs = []
  · subst hx
    cases r1
    exact cat_tup0 p1 p2 ⟨.ref b, H, I, rfl, q0 rfl⟩
  · refine HT.cat_tup p1 p2 (fun z => hx (r1.nil_iff.mp z)) (fun z => ⟨.ref a, H, I, rfl, q1 hx (r2.nil_iff.mp z)⟩) (fun z => ?_) (by rw [← r1.length, ← r2.length]; exact hz)
    exact ⟨.ref s.heap.objs.size, _, Inv.tnew (t' := s.toks) I (r1.append r2) (by rw [List.length_append]; exact hz), rfl, q2 hx (fun w => z (r2.nil_iff.mpr w)) _ _ (I.hok.fresh (Nat.le_refl _)) rfl⟩
def rSlF (K : PySem.W.Frag) : V → Option Int → Option Int → Hp → VK → Prop := fun x lo hi H Q => ∃ a xs, x = .ref a ∧ SqT K H a xs ∧
  (HT.sIx xs.length 0 lo = 0 ∧ HT.sIx xs.length xs.length hi = xs.length → Q (.ref a) H) ∧ (¬ (HT.sIx xs.length 0 lo = 0 ∧ HT.sIx xs.length xs.length hi = xs.length) → ∀ (p : Addr) (o : Obj), H p = none → o.dict = none → Q (.ref p) (upd H p (.frz o (.tup (cutV xs lo hi)))))
theorem sl_tupF {X : Cx} : SlR X (rSlF X.K) := by
  intro pins s σ H x v vl vu lo hi sl Q I rx hs pl pu h
  obtain ⟨a, xs, rfl, hx, q1, q2⟩ := h
  cases rx
  obtain ⟨its, r, ht, hz⟩ := I.tuple hx
  have hlen : its.toArray.size = xs.length := by rw [List.size_toArray]; exact r.length.symm
  refine ⟨"tuple", _, PyProof.Rows.slot_tuple_getitem.lookup, ht.typeIs, ?_⟩
  by_cases hw : HT.sIx xs.length 0 lo = 0 ∧ HT.sIx xs.length xs.length hi = xs.length
  · exact getItem_tuple_whole ht hs pl pu (by rw [hlen]; exact hw) ⟨.ref a, H, I, rfl, q1 hw⟩
  · refine HT.getItem_tuple_cut ht hs pl pu (by rw [hlen]; exact hw) ?_ (by rw [hlen]; exact hz)
    rw [hlen]
    exact ⟨.ref s.heap.objs.size, _, Inv.tnew (t' := s.toks) I ((r.drop (HT.sIx xs.length 0 lo)).take (HT.sIx xs.length xs.length hi - HT.sIx xs.length 0 lo)) (Nat.le_trans (cutV_length xs lo hi) hz), rfl, q2 hw _ _ (I.hok.fresh (Nat.le_refl _)) rfl⟩
def rTupF (K : PySem.W.Frag) : List V → Hp → VK → Prop := fun xs H Q => ∃ p ys, xs = [.ref p] ∧ ((SqL K H p ys ∧ ∀ (l : Addr) (o : Obj), H l = none → o.dict = none → Q (.ref l) (upd H l (.frz o (.tup ys)))) ∨ (SqT K H p ys ∧ Q (.ref p) H))
theorem call_tupleF {X : Cx} : CallR X (.type "tuple") (rTupF X.K) := by
  intro pins s σ H xs us Q I r h
  obtain ⟨p, ys, rfl, h⟩ := h
  obtain ⟨u, rfl, ru⟩ := vals1 r
  obtain rfl : u = .ref p := ru
  rcases h with ⟨hs, q⟩ | ⟨hs, q⟩
  · obtain ⟨its, rv, pl, hz⟩ := I.list hs
    refine call_tuple_list pl.isList (fun h' hk => ?_) (by rw [List.size_toArray, ← rv.length]; exact hz)
    have I1 : Inv X pins σ H { s with heap := h' } := I.kept (t' := s.toks) hk
    exact ⟨.ref h'.objs.size, _, Inv.tnew (t' := s.toks) I1 rv hz, rfl, q _ _ (I1.hok.fresh (Nat.le_refl _)) rfl⟩
  · obtain ⟨its, rv, pl, hz⟩ := I.tuple hs
    exact call_tuple_tup pl ⟨.ref p, H, I, rfl, q⟩

/-- ints in -/
def fI (c : Int → Int → Bool) (g : Int → Int → D) : F2 := fun sl S x y => match vw sl S x, vw sl S y with
  | some (.int i), some (.int j) => if c i j = true then some (g i j) else none
  | _, _ => none
theorem fI_some {c : Int → Int → Bool} {g : Int → Int → D} {sl : Sl} {S : Sto} {x y : Rf} {d : D} (h : fI c g sl S x y = some d) : ∃ i j, vw sl S x = some (.int i) ∧ vw sl S y = some (.int j) ∧ c i j = true ∧ d = g i j := by
  unfold fI at h
  split at h
  · rename_i i j h1 h2
    split at h
    · rename_i hc
      exact ⟨i, j, h1, h2, hc, (Option.some.inj h).symm⟩
    · cases h
  · cases h
theorem opS_int {C : Cf} {c : Int → Int → Bool} {P : Int → Int → Prop} {g : Int → Int → Int} (hc : ∀ i j, c i j = true → P i j) : OpS C (fI c fun i j => .int (g i j)) (rI P fun i j => .int (g i j)) := by
  intro U ad sl S σ H x y vx vy d Q s rx ry e q
  obtain ⟨i, j, h1, h2, h3, rfl⟩ := fI_some e
  have q1 := s.view rx h1
  have q2 := s.view ry h2
  cases q1
  cases q2
  exact ⟨i, j, rfl, rfl, hc i j h3, fin0 s q (.int _)⟩
theorem opS_intB {C : Cf} {g : Int → Int → Bool} : OpS C (fI (fun _ _ => true) fun i j => .bl (g i j)) (rI0 fun i j => .bl (g i j)) := by
  intro U ad sl S σ H x y vx vy d Q s rx ry e q
  obtain ⟨i, j, h1, h2, h3, rfl⟩ := fI_some e
  have q1 := s.view rx h1
  have q2 := s.view ry h2
  cases q1
  cases q2
  exact ⟨i, j, rfl, rfl, fin0 s q (.bl _)⟩
section
variable {X : Cx}
/-! #### ints -/
abbrev gSub : F2 := fI (fun _ _ => true) fun i j => .int (i - j)
theorem o_sub : OpR X (binaryOp .Sub) (rI (fun _ _ => True) fun i j => .int (i - j)) ∧ OpS (cf X) gSub (rI (fun _ _ => True) fun i j => .int (i - j)) := ⟨opI fun _ _ _ _ _ _ _ _ q => sub_int q, opS_int fun _ _ _ => True.intro⟩
abbrev gFdiv : F2 := fI (fun _ j => decide (0 < j) && decide (j.natAbs.log2 < 9000)) fun i j => .int (i / j)
theorem o_fdiv : OpR X (binaryOp .FloorDiv) (rI CDivW fun i j => .int (i / j)) ∧ OpS (cf X) gFdiv (rI CDivW fun i j => .int (i / j)) := ⟨op_fdivW, opS_int fun i j h => by
  rw [Bool.and_eq_true, decide_eq_true_iff, decide_eq_true_iff] at h
  exact h⟩
abbrev gMod : F2 := fI (fun _ j => decide (0 < j)) fun i j => .int (i % j)
theorem o_mod : OpR X (binaryOp .Mod) (rI (fun _ j => 0 < j) fun i j => .int (i % j)) ∧ OpS (cf X) gMod (rI (fun _ j => 0 < j) fun i j => .int (i % j)) := ⟨op_mod, opS_int fun i j h => of_decide_eq_true h⟩
def CPowW (i j : Int) : Prop := 0 ≤ j ∧ (Builtin.Int.intBits i : Int) * j ≤ 2 ^ 27
abbrev gPow : F2 := fI (fun i j => decide (0 ≤ j) && decide ((Builtin.Int.intBits i : Int) * j ≤ 2 ^ 27)) fun i j => .int (i ^ j.toNat)
theorem o_pow : OpR X (binaryOp .Pow) (rI CPowW fun i j => .int (i ^ j.toNat)) ∧ OpS (cf X) gPow (rI CPowW fun i j => .int (i ^ j.toNat)) := ⟨opI fun _ _ _ _ _ _ _ hc q => pow_int hc.1 hc.2 q, opS_int fun i j h => by
  rw [Bool.and_eq_true, decide_eq_true_iff, decide_eq_true_iff] at h
  exact h⟩
abbrev gLt : F2 := fI (fun _ _ => true) fun i j => .bl (decide (i < j))
theorem o_lt : OpR X (compareOp .Lt) (rI0 fun i j => .bl (decide (i < j))) ∧ OpS (cf X) gLt (rI0 fun i j => .bl (decide (i < j))) := ⟨op_lt, opS_intB⟩
abbrev gLe : F2 := fI (fun _ _ => true) fun i j => .bl (decide (i ≤ j))
theorem o_le : OpR X (compareOp .LtE) (rI0 fun i j => .bl (decide (i ≤ j))) ∧ OpS (cf X) gLe (rI0 fun i j => .bl (decide (i ≤ j))) := ⟨op_le, opS_intB⟩
abbrev gGt : F2 := fI (fun _ _ => true) fun i j => .bl (decide (j < i))
theorem o_gt : OpR X (compareOp .Gt) (rI0 fun i j => .bl (decide (j < i))) ∧ OpS (cf X) gGt (rI0 fun i j => .bl (decide (j < i))) := ⟨op_gt, opS_intB⟩
abbrev gGe : F2 := fI (fun _ _ => true) fun i j => .bl (decide (j ≤ i))
theorem o_ge : OpR X (compareOp .GtE) (rI0 fun i j => .bl (decide (j ≤ i))) ∧ OpS (cf X) gGe (rI0 fun i j => .bl (decide (j ≤ i))) := ⟨op_ge, opS_intB⟩
def gNeg : F1 := fun sl S x => match vw sl S x with
  | some (.int i) => some (.int (-i))
  | _ => none
theorem o_neg : UnR X (unaryOp .USub) (rU fun i => .int (-i)) ∧ UnS (cf X) gNeg (rU fun i => .int (-i)) := ⟨un_neg, by
  intro U ad sl S σ H x vx d Q s rx e q
  unfold gNeg at e
  split at e
  · rename_i i h1
    cases e
    have q1 := s.view rx h1
    cases q1
    exact ⟨i, rfl, fin0 s q (.int _)⟩
  · cases e⟩

/-! #### +, * of many kinds -/
def rCat' (K : PySem.W.Frag) : R2 := fun x y H Q => ∃ l b xs zs, x = .ref l ∧ y = .ref b ∧ SqL K H l xs ∧ SqL K H b zs ∧ xs.length + zs.length ≤ sizeLine ∧ ∀ p, H p = none → Q (.ref p) (upd H p (.lst (xs ++ zs)))
theorem op_cat' : OpR X (binaryOp .Add) (rCat' X.K) := by
  intro pins s σ H x y v u Q I rx ry h
  obtain ⟨l, b, xs, zs, rfl, rfl, hH, hB, hz, q⟩ := h
  cases rx
  cases ry
  obtain ⟨its, r, pl1, z⟩ := I.list hH
  obtain ⟨its2, r2, pl2, z2⟩ := I.list hB
  obtain ⟨⟨cls, dd, data, slo⟩, ho, hc, n, hd⟩ := id pl1.isList
  obtain ⟨⟨cls2, dd2, data2, slo2⟩, ho2, hc2, n2, hd2⟩ := id pl2.isList
  simp only at hc hd hc2 hd2
  subst hc hd hc2 hd2
  have hl := r.length
  have hl2 := r2.length
  have ea : its.toArray ++ its2.toArray = (its ++ its2).toArray := by simp
  refine concat_meets ⟨_, ho, rfl⟩ ⟨_, ho2, rfl⟩ noFill_list_add seq_list_add PySem.F.slot_list_add PySem.F.entry_list_add (PySem.F.args_list_add_2 _ _) (list_addW l b its.toArray its2.toArray n n2 dd dd2 slo slo2 (by rw [List.size_toArray, List.size_toArray]; omega)) ⟨ho, ho2, ?_⟩
  rw [ea]
  exact ⟨.ref _, _, I.lnew (t' := s.toks) (r.append r2) (by rw [List.length_append]; omega), rfl, q _ I.fresh⟩
def rAdd4 (K : PySem.W.Frag) : R2 := fun x y H Q => rI (fun _ _ => True) (fun i j => .int (i + j)) x y H Q ∨ (∃ i j, x = .str i ∧ y = .str j ∧ i.length + j.length ≤ sizeLine ∧ Q (.str (i ++ j)) H) ∨ rCat' K x y H Q ∨ rCatF K x y H Q
def gAdd : F2 := fun sl S x y => match vw sl S x, vw sl S y with
  | some (.int i), some (.int j) => some (.int (i + j))
  | some (.str a), some (.str b) => if a.length + b.length ≤ sizeLine then some (.str (a ++ b)) else none
  | some (.lst a), some (.lst b) => if a.length + b.length ≤ sizeLine then some (.lst (a ++ b)) else none
  | some (.tup a), some (.tup b) => if a.length + b.length ≤ sizeLine then some (.tup (a ++ b)) else none
  | _, _ => none
theorem o_add : OpR X (binaryOp .Add) (rAdd4 X.K) ∧ OpS (cf X) gAdd (rAdd4 X.K) := by
  refine ⟨?_, ?_⟩
  · intro pins s σ H x y v u Q I rx ry h
    rcases h with h | h | h | h
    · exact (opI (C := fun _ _ => True) fun _ _ _ _ _ _ _ _ q => add_int q) pins s σ H x y v u Q I rx ry h
    · exact op_add_str pins s σ H x y v u Q I rx ry h
    · exact op_cat' pins s σ H x y v u Q I rx ry h
    · exact op_catF pins s σ H x y v u Q I rx ry h
  · intro U ad sl S σ H x y vx vy d Q s rx ry e q
    unfold gAdd at e
    split at e
    · rename_i i j h1 h2
      cases e
      have q1 := s.view rx h1
      have q2 := s.view ry h2
      cases q1
      cases q2
      exact .inl ⟨i, j, rfl, rfl, True.intro, fin0 s q (.int _)⟩
    · rename_i a b h1 h2
      split at e
      · rename_i hz
        cases e
        have q1 := s.view rx h1
        have q2 := s.view ry h2
        cases q1
        cases q2
        exact .inr (.inl ⟨a, b, rfl, rfl, hz, fin0 s q (.str _)⟩)
      · cases e
    · rename_i a b h1 h2
      split at e
      · rename_i hz
        cases e
        have q1 := s.view rx h1
        have q2 := s.view ry h2
        cases q1 with
        | lst k1 r1 =>
          cases q2 with
          | lst k2 r2 =>
            exact .inr (.inr (.inl ⟨_, _, _, _, rfl, rfl, k1, k2, by rw [← r1.length, ← r2.length]; exact hz, fun p hp => finL s q (r1.append r2) hp⟩))
      · cases e
    · rename_i a b h1 h2
      split at e
      · rename_i hz
        cases e
        have q1 := s.view rx h1
        have q2 := s.view ry h2
        cases q1 with
        | tup k1 r1 t1 =>
          cases q2 with
          | tup k2 r2 t2 =>
            refine .inr (.inr (.inr ⟨_, _, _, _, rfl, rfl, k1, k2, by rw [← r1.length, ← r2.length]; exact hz, fun z => ?_, fun _ z => ?_, fun _ _ p o hp ho => finT s q (r1.append r2) hp ho⟩))
            · subst z
              cases r1
              exact fin0 s q t2
            · subst z
              cases r2
              rw [List.append_nil] at q
              exact fin0 s q t1
      · cases e
    · cases e

/-! #### ==, !=, in, not in over plain data; is -/
def rEqP (K : PySem.W.Frag) (neg : Bool) : R2 := fun x y H Q => ∃ d e : PyData, Dp K H x d ∧ Dp K H y e ∧ d.plain = true ∧ e.plain = true ∧ min d.depth e.depth ≤ 64 ∧ Q (.bl (if neg then !PyData.eqv d e else PyData.eqv d e)) H
theorem op_eqP (hu : X.A.units + 64 < cLine) : OpR X (compareOp .Eq) (rEqP X.K false) := by
  intro pins s σ H x y v u Q I rx ry h
  obtain ⟨d, e, hd, he, sd, se, hm, q⟩ := h
  obtain ⟨as, r1⟩ := Dp.reads I d x v hd rx
  obtain ⟨bs, r2⟩ := Dp.reads I e y u he ry
  exact SeqAt.eq_plain r1 r2 sd se (by omega) ⟨.bl _, H, I, rfl, q⟩
theorem op_neP (hu : X.A.units + 64 < cLine) : OpR X (compareOp .NotEq) (rEqP X.K true) := by
  intro pins s σ H x y v u Q I rx ry h
  obtain ⟨d, e, hd, he, sd, se, hm, q⟩ := h
  obtain ⟨as, r1⟩ := Dp.reads I d x v hd rx
  obtain ⟨bs, r2⟩ := Dp.reads I e y u he ry
  exact SeqAt.ne_plain r1 r2 sd se (by omega) ⟨.bl _, H, I, rfl, q⟩
def deq (a b : D) : Bool := PyData.eqv (py a) (py b)
def gEq (neg : Bool) : F2 := fun sl S x y => match vw sl S x, vw sl S y with
  | some a, some b => if pl a = true ∧ pl b = true ∧ min (py a).depth (py b).depth ≤ 64 then some (.bl (if neg then !deq a b else deq a b)) else none
  | _, _ => none
theorem opS_eq {neg : Bool} : OpS (cf X) (gEq neg) (rEqP X.K neg) := by
  intro U ad sl S σ H x y vx vy d Q s rx ry e q
  unfold gEq at e
  split at e
  · rename_i a b h1 h2
    split at e
    · rename_i hc
      cases e
      exact ⟨py a, py b, (s.view rx h1).dp hc.1, (s.view ry h2).dp hc.2.1, plain_py a, plain_py b, hc.2.2, fin0 s q (.bl _)⟩
    · cases e
  · cases e
theorem o_eq (hu : X.A.units + 64 < cLine) : OpR X (compareOp .Eq) (rEqP X.K false) ∧ OpS (cf X) (gEq false) (rEqP X.K false) := ⟨op_eqP hu, opS_eq⟩
theorem o_ne (hu : X.A.units + 64 < cLine) : OpR X (compareOp .NotEq) (rEqP X.K true) ∧ OpS (cf X) (gEq true) (rEqP X.K true) := ⟨op_neP hu, opS_eq⟩
/-- in a list, a tuple of plain data -/
def rInP (K : PySem.W.Frag) (neg : Bool) : R2 := fun x y H Q => ∃ (d : PyData) (es : List PyData), Dp K H x d ∧ (Dp K H y (.list es) ∨ Dp K H y (.tuple es)) ∧ d.plain = true ∧ PyData.plainAll es = true ∧ d.depth ≤ 60 ∧ Q (.bl (if neg then !(es.any fun z => PyData.eqv z d) else es.any fun z => PyData.eqv z d)) H
end
end PS

namespace PS
open PySem PySem.Spec PyProof.Rows L2

/-! ### dicts: what is found, what is put (by the keys as they compare) -/
def dlk (kvs : List (D × D)) (d : D) : Option D := (kvs.find? fun p => decide (nk p.1 = nk d)).map (·.2)
def dput (kvs : List (D × D)) (d e : D) : List (D × D) := if (kvs.any fun p => decide (nk p.1 = nk d)) = true then kvs.map (fun p => if nk p.1 = nk d then (p.1, e) else p) else kvs ++ [(d, e)]
theorem dput_length (kvs : List (D × D)) (d e : D) : (dput kvs d e).length ≤ kvs.length + 1 := by
  unfold dput
  split
  · rw [List.length_map]; omega
  · rw [List.length_append]; exact Nat.le_refl _
theorem ky_nk {d : D} {k : Key} (h : ky d = some k) : nk d = some (match k with | .inl i => .num i | .inr x => .text x) := by
  cases d with
  | int i => cases h; simp [nk]
  | str x => cases h; simp [nk]
  | _ => cases h
theorem ky_eq {d e : D} {k j : Key} (h : ky d = some k) (h2 : ky e = some j) : (nk d = nk e) ↔ k = j := by
  rw [ky_nk h, ky_nk h2]
  cases k <;> cases j <;> simp
section
variable {C : Cf} {W : Addr → Prop} {al : Nat → Addr} {N : Nat} {H : Hp}
def RepOp (C : Cf) (W : Addr → Prop) (al : Nat → Addr) (N : Nat) (H : Hp) : Option D → Option V → Prop
  | some d, some v => Rep C W al N H d v
  | none, none => True
  | _, _ => False
theorem RepKM.look : ∀ {kvs : List (D × D)} {ws : List (Key × V)} {d : D} {k : Key}, RepKM C W al N H kvs ws → ky d = some k → RepOp C W al N H (dlk kvs d) (valV ws k)
  | _, _, d, k, .nil, _ => True.intro
  | _, _, d, k, @RepKM.cons _ _ _ _ _ d' e' k' v' kvs ws h r t, hk => by
    by_cases e : k' = k
    · have e2 := (ky_eq h hk).mpr e
      have h1 : dlk ((d', e') :: kvs) d = some e' := by simp [dlk, List.find?_cons, e2]
      rw [h1, valV_pos e]
      exact r
    · have e2 : ¬ nk d' = nk d := fun z => e ((ky_eq h hk).mp z)
      have h1 : dlk ((d', e') :: kvs) d = dlk kvs d := by simp [dlk, List.find?_cons, e2]
      rw [h1, valV_neg e]
      exact RepKM.look t hk
theorem RepKM.any : ∀ {kvs : List (D × D)} {ws : List (Key × V)} {d : D} {k : Key}, RepKM C W al N H kvs ws → ky d = some k → (kvs.any fun p => decide (nk p.1 = nk d)) = ws.any fun kv => decide (kv.1 = k)
  | _, _, d, k, .nil, _ => rfl
  | _, _, d, k, @RepKM.cons _ _ _ _ _ d' e' k' v' kvs ws h r t, hk => by
    rw [List.any_cons, List.any_cons, RepKM.any t hk]
    congr 1
    exact decide_eq_decide.mpr (ky_eq h hk)
theorem RepKM.repl : ∀ {kvs : List (D × D)} {ws : List (Key × V)} {d e : D} {k : Key} {v : V}, RepKM C W al N H kvs ws → ky d = some k → Rep C W al N H e v → RepKM C W al N H (kvs.map fun p => if nk p.1 = nk d then (p.1, e) else p) (ws.map fun kv => if kv.1 = k then (kv.1, v) else kv)
  | _, _, d, e, k, v, .nil, _, _ => .nil
  | _, _, d, e, k, v, @RepKM.cons _ _ _ _ _ d' e' k' v' kvs ws h r t, hk, rv => by
    rw [List.map_cons, List.map_cons]
    by_cases q : k' = k
    · have q2 := (ky_eq h hk).mpr q
      rw [if_pos q2, if_pos q]
      exact .cons h rv (RepKM.repl t hk rv)
    · have q2 : ¬ nk d' = nk d := fun z => q ((ky_eq h hk).mp z)
      rw [if_neg q2, if_neg q]
      exact .cons h r (RepKM.repl t hk rv)
theorem RepKM.snoc : ∀ {kvs : List (D × D)} {ws : List (Key × V)} {d e : D} {k : Key} {v : V}, RepKM C W al N H kvs ws → ky d = some k → Rep C W al N H e v → RepKM C W al N H (kvs ++ [(d, e)]) (ws ++ [(k, v)])
  | _, _, _, _, _, _, .nil, hk, rv => .cons hk rv .nil
  | _, _, _, _, _, _, .cons h r t, hk, rv => .cons h r (RepKM.snoc t hk rv)
theorem RepKM.put {kvs : List (D × D)} {ws : List (Key × V)} {d e : D} {k : Key} {v : V} (t : RepKM C W al N H kvs ws) (hk : ky d = some k) (rv : Rep C W al N H e v) : RepKM C W al N H (dput kvs d e) (putK ws k v) := by
  unfold dput putK
  rw [t.any hk]
  split
  · exact t.repl hk rv
  · exact t.snoc hk rv
theorem RepKM.length : ∀ {kvs : List (D × D)} {ws : List (Key × V)}, RepKM C W al N H kvs ws → kvs.length = ws.length
  | _, _, .nil => rfl
  | _, _, .cons _ _ t => by rw [List.length_cons, List.length_cons, RepKM.length t]

mutual
theorem NkV.is {X : Cx} {pins : List (Addr × Obj)} {σ : L2.St} {s : Shared} (I : Inv X pins σ H s) : ∀ {d : D} {k : NestedKey} {v : V} {u : Value}, Rep C W al N H d v → C.K = X.K → nk d = some k → RelV v u → NestedIs s.heap k u
  | _, k, _, u, .non, _, h, r => by
    simp only [nk, Option.some.injEq] at h; subst h; cases r; exact .none
  | _, k, _, u, .bl b, _, h, r => by
    simp only [nk, Option.some.injEq] at h; subst h; cases r; exact .bool rfl
  | _, k, _, u, .int i, _, h, r => by
    simp only [nk, Option.some.injEq] at h; subst h
    obtain ⟨t, rfl⟩ := r
    exact .int i t
  | _, k, _, u, .str x, _, h, r => by
    simp only [nk, Option.some.injEq] at h; subst h
    obtain ⟨t, rfl⟩ := r
    exact .text x t
  | _, k, _, u, @Rep.tup _ _ _ _ _ a ds vs w hr q, hK, h, r => by
    simp only [nk, Option.map_eq_some_iff] at h
    obtain ⟨ks, hks, rfl⟩ := h
    cases r
    obtain ⟨its, rv, ⟨o, ho, hc, n, hd⟩, _⟩ := I.tuple (.inl hr.rd)
    exact .tup ho hc hd (NkV.all I q hK hks (by simpa using rv))
  | _, k, _, u, @Rep.ktup _ _ _ _ _ a ds vs hr q, hK, h, r => by
    simp only [nk, Option.map_eq_some_iff] at h
    obtain ⟨ks, hks, rfl⟩ := h
    cases r
    rw [hK] at hr
    obtain ⟨its, rv, ⟨o, ho, hc, n, hd⟩, _⟩ := I.tuple hr.sq
    exact .tup ho hc hd (NkV.all I q hK hks (by simpa using rv))
  | _, _, _, _, .lst _ _ _, _, h, _ => by simp [nk] at h
  | _, _, _, _, .klst _ _, _, h, _ => by simp [nk] at h
  | _, _, _, _, .dct _ _ _, _, h, _ => by simp [nk] at h
  | _, _, _, _, .ins _ _ _, _, h, _ => by simp [nk] at h
  | _, _, _, _, .loc _, _, h, _ => by simp [nk] at h
  | _, _, _, _, .fn _ _, _, h, _ => by simp [nk] at h
  | _, _, _, _, .pr _ _ _, _, h, _ => by simp [nk] at h
theorem NkV.all {X : Cx} {pins : List (Addr × Obj)} {σ : L2.St} {s : Shared} (I : Inv X pins σ H s) : ∀ {ds : List D} {ks : List NestedKey} {vs : List V} {us : List Value}, Reps C W al N H ds vs → C.K = X.K → nks ds = some ks → Vals vs us → NestedAll s.heap ks us
  | _, ks, _, us, .nil, _, h, r => by
    simp only [nks, Option.some.injEq] at h; subst h; cases r; exact .nil
  | _, ks, _, us, @Reps.cons _ _ _ _ _ d v ds vs q t, hK, h, r => by
    cases r with
    | cons r1 r2 =>
      simp only [nks] at h
      split at h
      · rename_i k ks' h1 h2
        cases h
        exact .cons (NkV.is I q hK h1 r1) (NkV.all I t hK h2 r2)
      · cases h
end

def RepOu (C : Cf) (W : Addr → Prop) (al : Nat → Addr) (N : Nat) (H : Hp) : Option D → Option Value → Prop
  | some d, some u => ∃ v, RelV v u ∧ Rep C W al N H d v
  | none, none => True
  | _, _ => False
theorem RepKN.look : ∀ {kvs : List (D × D)} {xs : List (NestedKey × Addr × Value)} {d : D} {k : NestedKey}, RepKN C W al N H kvs xs → nk d = some k → RepOu C W al N H (dlk kvs d) ((atKey xs k).map (·.2))
  | _, _, d, k, .nil, _ => True.intro
  | _, _, d, k, @RepKN.cons _ _ _ _ _ d' e' k' a v u kvs xs h ra ru r t, hk => by
    by_cases e : k' = k
    · have e2 : nk d' = nk d := by rw [h, hk, e]
      have h1 : dlk ((d', e') :: kvs) d = some e' := by simp [dlk, List.find?_cons, e2]
      have h2 : (atKey ((k', a, u) :: xs) k).map (·.2) = some u := by simp [atKey, List.find?_cons, e]
      rw [h1, h2]
      exact ⟨v, ru, r⟩
    · have e2 : ¬ nk d' = nk d := fun z => e (by rw [h, hk] at z; exact Option.some.inj z)
      have h1 : dlk ((d', e') :: kvs) d = dlk kvs d := by simp [dlk, List.find?_cons, e2]
      have h2 : atKey ((k', a, u) :: xs) k = atKey xs k := by simp [atKey, List.find?_cons, e]
      rw [h1, h2]
      exact RepKN.look t hk
theorem RepKN.any : ∀ {kvs : List (D × D)} {xs : List (NestedKey × Addr × Value)} {d : D} {k : NestedKey}, RepKN C W al N H kvs xs → nk d = some k → (kvs.any fun p => decide (nk p.1 = nk d)) = (atKey xs k).isSome
  | _, _, d, k, .nil, _ => rfl
  | _, _, d, k, @RepKN.cons _ _ _ _ _ d' e' k' a v u kvs xs h ra ru r t, hk => by
    by_cases e : k' = k
    · have e2 : nk d' = nk d := by rw [h, hk, e]
      simp [List.any_cons, atKey, List.find?_cons, e, e2]
    · have e2 : ¬ nk d' = nk d := fun z => e (by rw [h, hk] at z; exact Option.some.inj z)
      have h2 : atKey ((k', a, u) :: xs) k = atKey xs k := by simp [atKey, List.find?_cons, e]
      rw [List.any_cons, RepKN.any t hk, h2, decide_eq_false e2, Bool.false_or]
theorem RepKN.repl : ∀ {kvs : List (D × D)} {xs : List (NestedKey × Addr × Value)} {d e : D} {k : NestedKey} {v : V} {u : Value}, RepKN C W al N H kvs xs → nk d = some k → RelV v u → Rep C W al N H e v → RepKN C W al N H (kvs.map fun p => if nk p.1 = nk d then (p.1, e) else p) (xs.map (putAt k u))
  | _, _, _, _, _, _, _, .nil, _, _, _ => .nil
  | _, _, d, e, k, v, u, @RepKN.cons _ _ _ _ _ d' e' k' a v' u' kvs xs h ra ru r t, hk, ru2, rv => by
    rw [List.map_cons, List.map_cons]
    by_cases q : k' = k
    · have q2 : nk d' = nk d := by rw [h, hk, q]
      rw [if_pos q2]
      have : putAt k u (k', a, u') = (k', a, u) := by unfold putAt; rw [if_pos q]
      rw [this]
      exact .cons h ra ru2 rv (RepKN.repl t hk ru2 rv)
    · have q2 : ¬ nk d' = nk d := fun z => q (by rw [h, hk] at z; exact Option.some.inj z)
      rw [if_neg q2]
      have : putAt k u (k', a, u') = (k', a, u') := by unfold putAt; rw [if_neg q]
      rw [this]
      exact .cons h ra ru r (RepKN.repl t hk ru2 rv)
theorem RepKN.snoc : ∀ {kvs : List (D × D)} {xs : List (NestedKey × Addr × Value)} {d e : D} {k : NestedKey} {a : Addr} {v : V} {u : Value}, RepKN C W al N H kvs xs → nk d = some k → Rep C W al N H d (.ref a) → RelV v u → Rep C W al N H e v → RepKN C W al N H (kvs ++ [(d, e)]) (xs ++ [(k, a, u)])
  | _, _, _, _, _, _, _, _, .nil, hk, ra, ru, rv => .cons hk ra ru rv .nil
  | _, _, _, _, _, _, _, _, .cons h ra' ru' r t, hk, ra, ru, rv => .cons h ra' ru' r (RepKN.snoc t hk ra ru rv)
theorem RepKN.put {kvs : List (D × D)} {xs : List (NestedKey × Addr × Value)} {d e : D} {k : NestedKey} {a : Addr} {v : V} {u : Value} (t : RepKN C W al N H kvs xs) (hk : nk d = some k) (ra : Rep C W al N H d (.ref a)) (ru : RelV v u) (rv : Rep C W al N H e v) :
    RepKN C W al N H (dput kvs d e) (storedH xs k a u) := by
  unfold dput storedH
  rw [t.any hk]
  split
  · exact t.repl hk ru rv
  · exact t.snoc hk ra ru rv
theorem RepKN.length : ∀ {kvs : List (D × D)} {xs : List (NestedKey × Addr × Value)}, RepKN C W al N H kvs xs → kvs.length = xs.length
  | _, _, .nil => rfl
  | _, _, .cons _ _ _ _ t => by rw [List.length_cons, List.length_cons, RepKN.length t]
theorem RepKN.keys {X : Cx} {pins : List (Addr × Obj)} {σ : L2.St} {s : Shared} (I : Inv X pins σ H s) (hK : C.K = X.K) : ∀ {kvs : List (D × D)} {xs : List (NestedKey × Addr × Value)}, RepKN C W al N H kvs xs → ∀ x ∈ xs, NestedIs s.heap x.1 (.ref x.2.1)
  | _, _, .nil, x, hx => by simp at hx
  | _, _, .cons h ra ru r t, x, hx => by
    rcases List.mem_cons.mp hx with rfl | hx
    · exact NkV.is I ra hK h rfl
    · exact RepKN.keys I hK t x hx
end

/-! ### a dict of nested tuples among the layer's objects -/
section
variable {X : Cx} {pins : List (Addr × Obj)} {σ : L2.St} {H : Hp} {s : Shared} {a : Addr} {xs : List (NestedKey × Addr × Value)} {W : Addr → Prop} {al : Nat → Addr} {N : Nat} {A : Around} {E : Value → Shared → Prop} {kvs : List (D × D)}
theorem dn_of (I : Inv X pins σ H s) (e : Rd H a (dphi (cf X) a xs)) (r : RepKN (cf X) W al N H kvs xs) : (a == sysModules) = false ∧ xs.length ≤ sizeLine ∧ s.heap.DictOfH (nestedKind X.prog X.w) a xs := by
  obtain ⟨⟨h1, h2, sh, o, es, ep, h3, h4, h5, h6, h7⟩, _, _⟩ := e.ok I.hok
  exact ⟨h1, h2, o, es, ep, h3, h4, h5, h6, fun x hx => ⟨r.keys I rfl x hx, sh x hx⟩, h7⟩
theorem dphi_ok {P : Program} {w : World} {h : Heap} {C : Cf} (hP : C.P = P) (hw : C.w = w) (h1 : (a == sysModules) = false) (h2 : xs.length ≤ sizeLine) (h3 : h.DictOfH (nestedKind P w) a xs) : ObjOk P w H h a (dphi C a xs) := by
  subst hP hw
  obtain ⟨o, es, ep, q1, q2, q3, q4, q6, q5⟩ := h3
  refine ⟨⟨h1, h2, fun x hx => (q6 x hx).2, o, es, ep, q1, q2, q3, q4, q5⟩, ⟨o, q1⟩, fun g1 g2 ⟨z1, z2, z0, o', es', ep', z3, z4, z5, z6, z7⟩ k => ⟨z1, z2, z0, o', es', ep', k o' z3, z4, z5, z6, z7⟩⟩
/-- at a the entries xs; y is the key k, a tuple at ka -/
structure NDat (X : Cx) (H : Hp) (a : Addr) (xs : List (NestedKey × Addr × Value)) (y : V) (k : NestedKey) (ka : Addr) : Prop where
  rd : Rd H a (dphi (cf X) a xs)
  ey : y = .ref ka
  dp : k.depth ≤ 8
  rp : ∃ (W : Addr → Prop) (al : Nat → Addr) (N : Nat) (kvs : List (D × D)) (d : D), RepKN (cf X) W al N H kvs xs ∧ Rep (cf X) W al N H d (.ref ka) ∧ nk d = some k
variable {y v : V} {k : NestedKey} {ka : Addr} {u r : Value}
theorem NDat.get (I : Inv X pins σ H s) (n : NDat X H a xs y k ka) (ry : RelV y u) : u = .ref ka ∧ (a == sysModules) = false ∧ xs.length ≤ sizeLine ∧ s.heap.DictOfH (nestedKind X.prog X.w) a xs ∧ (nestedKind X.prog X.w).is s.heap k ka := by
  obtain ⟨rd, rfl, dp, W, al, N, kvs, d, rk, rq, hk⟩ := n
  obtain ⟨h1, h2, h3⟩ := dn_of I rd rk
  exact ⟨ry, h1, h2, h3, NkV.is I rq rfl hk rfl, dp⟩
theorem NDat.ty (I : Inv X pins σ H s) (n : NDat X H a xs y k ka) : s.TypeIs (.ref a) "dict" ∧ ∀ b, Value.ref a = .ref b → ∃ ob, s.heap.get? b = some ob ∧ ob.dict = none := by
  obtain ⟨rd, _⟩ := n
  obtain ⟨⟨_, _, _, o, es, ep, h3, h4, _⟩, _, _⟩ := rd.ok I.hok
  refine ⟨⟨o, h3, h4.1⟩, fun b e => ?_⟩
  cases e
  exact ⟨o, h3, h4.2.1⟩
theorem room8 {A : Around} (hu : A.units + 64 < cLine) : (nestedKind X.prog X.w).room A.in1 := by
  show A.in1.units + 8 < cLine
  rw [Around.in1_units]
  omega
theorem n_getItem {p : Addr × Value} {Q : Value → Shared → Prop} (hu : A.units + 64 < cLine) (I : Inv X pins σ H s) (n : NDat X H a xs y k ka) (ry : RelV y u) (hp : atKey xs k = some p) (h : ∀ s', Inv X pins σ H s' → Q p.2 s') :
    wpAny (model X.prog X.w) A (getItem (.ref a) u) Q E s := by
  obtain ⟨rfl, h1, h2, h3, h4⟩ := n.get I ry
  exact wpAny_getItem_heap (room8 hu) h4 h3 hp (h _ (I.tok _))
theorem n_in {Q : Value → Shared → Prop} (hu : A.units + 64 < cLine) (I : Inv X pins σ H s) (n : NDat X H a xs y k ka) (ry : RelV y u) (h : ∀ s', Inv X pins σ H s' → Q (.bool (atKey xs k).isSome) s') :
    wpAny (model X.prog X.w) A (compareOp .In u (.ref a)) Q E s := by
  obtain ⟨rfl, h1, h2, h3, h4⟩ := n.get I ry
  exact wpAny_in_heap (room8 hu) h4 h1 h3 (h _ (I.tok _))
theorem n_notIn {Q : Value → Shared → Prop} (hu : A.units + 64 < cLine) (I : Inv X pins σ H s) (n : NDat X H a xs y k ka) (ry : RelV y u) (h : ∀ s', Inv X pins σ H s' → Q (.bool (!(atKey xs k).isSome)) s') :
    wpAny (model X.prog X.w) A (compareOp .NotIn u (.ref a)) Q E s := by
  obtain ⟨rfl, h1, h2, h3, h4⟩ := n.get I ry
  exact wpAny_notIn_heap (room8 hu) h4 h1 h3 (h _ (I.tok _))
theorem n_get2 {Q : Value → Shared → Prop} (hu : A.units + 64 < cLine) (I : Inv X pins σ H s) (n : NDat X H a xs y k ka) (ry : RelV y u) (h : ∀ s', Inv X pins σ H s' → Q (((atKey xs k).map (·.2)).getD r) s') :
    wpAny (model X.prog X.w) A (call (.builtin "dict.get") [.ref a, u, r]) Q E s := by
  obtain ⟨rfl, h1, h2, h3, h4⟩ := n.get I ry
  exact call_meetsIn PySem.F.slot_dict_get h3.typeIs PySem.F.entry_dict_get (PySem.F.args_dict_get_3 _ _ _) (meetsH_dict_get_default (nestedKind X.prog X.w) a ka h1 r) ⟨room8 hu, k, xs, h4, h3, h _ (I.tok _)⟩
theorem n_write {h' : Heap} {t' : Nat} {xs' : List (NestedKey × Addr × Value)} (I : Inv X pins σ H s) (e : H a = some (dphi (cf X) a xs)) (h1 : (a == sysModules) = false) (h2 : xs'.length ≤ sizeLine) (dd : h'.DictOfH (nestedKind X.prog X.w) a xs') (hs : Heap.SameBut a s.heap h') :
    Inv X pins σ (upd H a (dphi (cf X) a xs')) { s with heap := h', toks := t' } := by
  have he : ∃ q, h'.get? a = some q := let ⟨q, _, _, hq, _⟩ := dd; ⟨q, hq⟩
  exact d_write I (by rw [e]; exact True.intro) hs he (dphi_ok rfl rfl h1 h2 dd)
theorem storedH_length (xs : List (NestedKey × Addr × Value)) (k : NestedKey) (a : Addr) (u : Value) : (storedH xs k a u).length ≤ xs.length + 1 := by
  unfold storedH
  split
  · rw [List.length_map]; omega
  · rw [List.length_append]; exact Nat.le_refl _
theorem n_set {Q : Unit → Shared → Prop} (hu : A.units + 64 < cLine) (I : Inv X pins σ H s) (n : NDat X H a xs y k ka) (e : H a = some (dphi (cf X) a xs)) (hl : xs.length < sizeLine) (ry : RelV y u) (h : ∀ s', Inv X pins σ (upd H a (dphi (cf X) a (storedH xs k ka r))) s' → Q () s') :
    wpAny (model X.prog X.w) A (setItem (.ref a) u r) Q E s := by
  obtain ⟨rfl, h1, h2, h3, h4⟩ := n.get I ry
  refine wpAny_setItem_heap (hsz := h2) (room8 hu) h4 h3 fun h' dd hs => h _ (n_write I e h1 ?_ dd hs)
  have := storedH_length xs k ka r
  omega
theorem n_setdefault {Q : Value → Shared → Prop} (hu : A.units + 64 < cLine) (I : Inv X pins σ H s) (n : NDat X H a xs y k ka) (e : H a = some (dphi (cf X) a xs)) (hl : xs.length < sizeLine) (ry : RelV y u)
    (q1 : ∀ p s', atKey xs k = some p → Inv X pins σ H s' → Q p.2 s') (q2 : ∀ s', atKey xs k = none → Inv X pins σ (upd H a (dphi (cf X) a (storedH xs k ka r))) s' → Q r s') :
    wpAny (model X.prog X.w) A (call (.builtin "dict.setdefault") [.ref a, u, r]) Q E s := by
  obtain ⟨rfl, h1, h2, h3, h4⟩ := n.get I ry
  refine call_setdefault_heap (hsz := h2) (room8 hu) h4 h1 h3 (fun p hp => q1 p _ hp (I.tok _)) fun hn h' dd hs => q2 _ hn (n_write I e h1 ?_ dd hs)
  have := storedH_length xs k ka r
  omega
end
end PS

namespace PS
open PySem PySem.Spec PyProof.Rows L2

/-- an operand's own value (a key) -/
def dv (sl : Sl) : Rf → Option D
  | .d d => some d
  | .sl i => match sl[i]? with
    | some (some (.val d)) => some d
    | _ => none
def isTup : D → Bool
  | .tup _ => true
  | _ => false
/-- a key of a dict of that kind -/
def okKey (t : Bool) (d : D) : Bool := if t then isTup d && (match nk d with | some k => decide (k.depth ≤ 8) | none => false) else (ky d).isSome
section
variable {C : Cf} {U W : Addr → Prop} {al : Nat → Addr} {N : Nat} {ad : Cell → Addr} {sl : Sl} {S : Sto} {σ : L2.St} {H : Hp}
theorem Sim.dv (s : Sim C U ad sl S σ H) {r : Rf} {d : D} {v : V} (q : RepR C (Wr U ad sl S) (lc ad) S.length H σ r v) (h : PS.dv sl r = some d) : Rep C (Wr U ad sl S) (lc ad) S.length H d v := by
  cases q with
  | d q => cases h; exact q
  | @sl i v q =>
    simp only [PS.dv] at h
    split at h
    · rename_i d0 hs
      cases h
      obtain ⟨v', h1, h2⟩ := s.slt i _ hs
      rw [q] at h1; cases h1
      cases h2 with
      | val r => exact r
    · cases h
theorem rep_ky {d : D} {v : V} {k : Key} (r : Rep C W al N H d v) (h : ky d = some k) : v = kV k := by
  cases r with
  | int i => cases h; rfl
  | str x => cases h; rfl
  | _ => cases h
theorem rep_tup {d : D} {v : V} (r : Rep C W al N H d v) (h : isTup d = true) : ∃ a, v = .ref a := by
  cases r with
  | tup _ _ _ => exact ⟨_, rfl⟩
  | ktup _ _ => exact ⟨_, rfl⟩
  | _ => cases h
theorem nat_of (X : Cx) {W : Addr → Prop} {al : Nat → Addr} {N : Nat} {H : Hp} {a : Addr} {xs : List (NestedKey × Addr × Value)} {kvs : List (D × D)} {d : D} {v : V} (rd : Rd H a (dphi (cf X) a xs)) (rk : RepKN (cf X) W al N H kvs xs) (rv : Rep (cf X) W al N H d v) (h : okKey true d = true) :
    ∃ k ka, v = .ref ka ∧ nk d = some k ∧ NDat X H a xs v k ka := by
  unfold okKey at h
  rw [if_pos rfl, Bool.and_eq_true] at h
  obtain ⟨h1, h2⟩ := h
  obtain ⟨ka, rfl⟩ := rep_tup rv h1
  cases q : nk d with
  | none => rw [q] at h2; cases h2
  | some k =>
    rw [q] at h2
    exact ⟨k, ka, rfl, rfl, rd, rfl, of_decide_eq_true h2, W, al, N, kvs, d, rk, rv, q⟩
end

section
variable {X : Cx}
/-! ### a[b] -/
theorem ix_any {T id : String} {value slice : Expr} {s : Shared} {v u : Value} {Q : Value → Shared → Prop} (hl : typeLookup (.type T) "__getitem__" = pure (some (.builtin id))) (hT : s.TypeIs v T) (hs : subscripted slice false v u = operate [v, u] (getItem v u))
    (h : wpAny (model X.prog X.w) X.A (getItem v u) Q X.xe s) : wpAny (model X.prog X.w) X.A (subscriptTail value slice v u) Q X.xe s := by
  unfold subscriptTail
  refine wpAny_bind ?_
  rw [getitemInPython_of_ne hT.not_modules]
  refine wpAny_bind (wpAny_specialOf hT hl ?_)
  have fin : wpAny (model X.prog X.w) X.A (subscripted slice false v u) (fun r s₃ => wpAny (model X.prog X.w) X.A (letTemporaryGo value v r >>= fun _ => pure r) Q X.xe s₃) X.xe s := by
    rw [hs]
    exact wpAny_operating (wpAny_mono h (fun r s₃ h₃ => wpAny_bind (wpAny_letTemporaryGo (wpAny_pure h₃))) fun _ _ x => x)
  first
    | exact wpAny_pure (wpAny_bind fin)
    | exact wpAny_bind (wpAny_pure (wpAny_bind fin))
    | exact wpAny_bind fin
def rIxD : R2 := fun x y H Q => ∃ a v, x = .ref a ∧ DGet H a y (some v) ∧ Q v H
def rIxN (X : Cx) : R2 := fun x y H Q => ∃ a xs k ka p v, x = .ref a ∧ NDat X H a xs y k ka ∧ atKey xs k = some p ∧ RelV v p.2 ∧ Q v H
theorem ix_dK (hu : X.A.units + 64 < cLine) : IxR X rIxD := by
  intro value slice pins s σ H x y v u Q I rx ry h hs
  obtain ⟨a, z, rfl, g, q⟩ := h
  cases rx
  exact ix_any PySem.F.slot_dict_getitem.lookup (dict_typeIs I g) hs (d_getItem (by omega) I g ry fun w' s3 I3 rw' => ⟨z, H, I3, rw', q⟩)
theorem ix_dN (hu : X.A.units + 64 < cLine) : IxR X (rIxN X) := by
  intro value slice pins s σ H x y v u Q I rx ry h hs
  obtain ⟨a, xs, k, ka, p, z, rfl, n, hp, rz, q⟩ := h
  cases rx
  exact ix_any PySem.F.slot_dict_getitem.lookup (n.ty I).1 hs (n_getItem hu I n ry hp fun s3 I3 => ⟨z, H, I3, rz, q⟩)
def rIxG (X : Cx) : R2 := fun x y H Q => rIxL X.K x y H Q ∨ rIxT X.K x y H Q ∨ rIxS x y H Q ∨ rIxD x y H Q ∨ rIxN X x y H Q
theorem ix_G (hu : X.A.units + 64 < cLine) : IxR X (rIxG X) := ix_list.or (ix_tup.or (ix_str.or ((ix_dK hu).or (ix_dN hu))))
def gIx : F2 := fun sl S x y => match vw sl S x with
  | some (.lst ds) => (match vw sl S y with
    | some (.int i) => atI ds i
    | _ => none)
  | some (.tup ds) => (match vw sl S y with
    | some (.int i) => atI ds i
    | _ => none)
  | some (.str z) => (match vw sl S y with
    | some (.int i) => if z.length ≤ sizeLine then (atI z.cps.toList i).map fun c => .str ⟨#[c]⟩ else none
    | _ => none)
  | some (.dct t kvs) => (match dv sl y with
    | some k => if okKey t k = true then dlk kvs k else none
    | none => none)
  | _ => none
theorem atI_reps {C : Cf} {W : Addr → Prop} {al : Nat → Addr} {N : Nat} {H : Hp} {ds : List D} {vs : List V} {i : Int} {d : D} (r : Reps C W al N H ds vs) (h : atI ds i = some d) : ∃ v, atI vs i = some v ∧ Rep C W al N H d v := by
  unfold atI at h ⊢
  rw [← r.length]
  cases q : ixN ds.length i with
  | none => rw [q] at h; cases h
  | some j =>
    rw [q] at h
    exact r.get h
theorem opS_ix : OpS (cf X) gIx (rIxG X) := by
  intro U ad sl S σ H x y vx vy d Q s rx ry e q
  unfold gIx at e
  split at e
  · rename_i ds h1
    split at e
    · rename_i i h2
      have q1 := s.view rx h1
      have q2 := s.view ry h2
      cases q2
      cases q1 with
      | lst k1 r1 =>
        obtain ⟨v, h3, h4⟩ := atI_reps r1 e
        exact .inl ⟨_, _, i, v, rfl, rfl, k1, h3, fin0 s q h4⟩
    · cases e
  · rename_i ds h1
    split at e
    · rename_i i h2
      have q1 := s.view rx h1
      have q2 := s.view ry h2
      cases q2
      cases q1 with
      | tup k1 r1 =>
        obtain ⟨v, h3, h4⟩ := atI_reps r1 e
        exact .inr (.inl ⟨_, _, i, v, rfl, rfl, k1, h3, fin0 s q h4⟩)
    · cases e
  · rename_i z h1
    split at e
    · rename_i i h2
      split at e
      · rename_i hz
        obtain ⟨c, h3, rfl⟩ := Option.map_eq_some_iff.mp e
        have q1 := s.view rx h1
        have q2 := s.view ry h2
        cases q2
        cases q1
        exact .inr (.inr (.inl ⟨z, i, c, rfl, rfl, hz, h3, fin0 s q (.str _)⟩))
      · cases e
    · cases e
  · rename_i t kvs h1
    split at e
    · rename_i k h2
      split at e
      · rename_i hk
        have q1 := s.view rx h1
        have q2 := s.dv ry h2
        cases q1 with
        | dct rd rh =>
          cases rh with
          | dctM rk =>
            simp only [okKey, Bool.false_eq_true, if_false] at hk
            obtain ⟨k', hk'⟩ := Option.isSome_iff_exists.mp hk
            have z := rk.look hk'
            rw [e] at z
            rw [rep_ky q2 hk']
            cases zz : valV _ k' with
            | none => rw [zz] at z; exact z.elim
            | some v =>
              rw [zz] at z
              exact .inr (.inr (.inr (.inl ⟨_, v, rfl, .inl ⟨_, k', rd, rfl, zz.symm⟩, fin0 s q z⟩)))
          | dctN rk =>
            obtain ⟨k', ka, rfl, hk', n⟩ := nat_of X rd rk q2 hk
            have z := rk.look hk'
            rw [e] at z
            cases zz : atKey _ k' with
            | none => rw [zz] at z; exact z.elim
            | some p =>
              rw [zz] at z
              obtain ⟨v, z1, z2⟩ := z
              exact .inr (.inr (.inr (.inr ⟨_, _, k', ka, p, v, rfl, n, zz, z1, fin0 s q z2⟩)))
      · cases e
    · cases e
  · cases e
theorem ee_ix {a b : Expr} {pos : Pos} {ma mb : M Rf} (hu : X.A.units + 64 < cLine) (ha : ER X a ma) (hb : ER X b mb) (hs : PlainIx b := by exact fun _ _ => rfl) : EE X (.Subscript a b pos) (m2 gIx ma mb) := pe_imp (pe_ix (ix_G hu) ha hb hs) fun _ _ _ h => tX_m2 opS_ix h

/-! ### in, not in -/
def rInG (X : Cx) (neg : Bool) : R2 := fun x y H Q => rEqInP X neg x y H Q ∨ (∃ a o, y = .ref a ∧ DGet H a x o ∧ Q (.bl (if neg then !o.isSome else o.isSome)) H) ∨ (∃ a xs k ka, y = .ref a ∧ NDat X H a xs x k ka ∧ Q (.bl (if neg then !(atKey xs k).isSome else (atKey xs k).isSome)) H)
where rEqInP (X : Cx) (neg : Bool) : R2 := fun x y H Q => ∃ (d : PyData) (es : List PyData), Dp X.K H x d ∧ (Dp X.K H y (.list es) ∨ Dp X.K H y (.tuple es)) ∧ d.plain = true ∧ PyData.plainAll es = true ∧ d.depth ≤ 60 ∧ Q (.bl (if neg then !(es.any fun z => PyData.eqv z d) else es.any fun z => PyData.eqv z d)) H
theorem op_inG (hu : X.A.units + 64 < cLine) : OpR X (compareOp .In) (rInG X false) := by
  intro pins s σ H x y v u Q I rx ry h
  rcases h with ⟨d, es, hd, hy, pd, pes, hz, q⟩ | ⟨a, o, rfl, g, q⟩ | ⟨a, xs, k, ka, rfl, n, q⟩
  · obtain ⟨as, r1⟩ := Dp.reads I d x v hd rx
    rcases hy with hy | hy
    · obtain ⟨bs, r2⟩ := Dp.reads I _ y u hy ry
      exact SeqAt.in_list_data r2 r1 pes pd (by omega) ⟨.bl _, H, I, rfl, q⟩
    · obtain ⟨bs, r2⟩ := Dp.reads I _ y u hy ry
      exact SeqAt.in_tuple_data r2 r1 pes pd (by omega) ⟨.bl _, H, I, rfl, q⟩
  · cases ry
    exact d_in (by omega) I g rx fun s3 I3 => ⟨.bl _, H, I3, rfl, q⟩
  · cases ry
    exact n_in hu I n rx fun s3 I3 => ⟨.bl _, H, I3, rfl, q⟩
theorem op_ninG (hu : X.A.units + 64 < cLine) : OpR X (compareOp .NotIn) (rInG X true) := by
  intro pins s σ H x y v u Q I rx ry h
  rcases h with ⟨d, es, hd, hy, pd, pes, hz, q⟩ | ⟨a, o, rfl, g, q⟩ | ⟨a, xs, k, ka, rfl, n, q⟩
  · obtain ⟨as, r1⟩ := Dp.reads I d x v hd rx
    rcases hy with hy | hy
    · obtain ⟨bs, r2⟩ := Dp.reads I _ y u hy ry
      exact SeqAt.notIn_list_data r2 r1 pes pd (by omega) ⟨.bl _, H, I, rfl, q⟩
    · obtain ⟨bs, r2⟩ := Dp.reads I _ y u hy ry
      exact SeqAt.notIn_tuple_data r2 r1 pes pd (by omega) ⟨.bl _, H, I, rfl, q⟩
  · cases ry
    exact d_notIn (by omega) I g rx fun s3 I3 => ⟨.bl _, H, I3, rfl, q⟩
  · cases ry
    exact n_notIn hu I n rx fun s3 I3 => ⟨.bl _, H, I3, rfl, q⟩
def gIn (neg : Bool) : F2 := fun sl S x y => match vw sl S y with
  | some (.lst ds) => (match vw sl S x with
    | some d => if pl d = true ∧ pls ds = true ∧ (py d).depth ≤ 60 then some (.bl (if neg then !(ds.any fun z => deq z d) else ds.any fun z => deq z d)) else none
    | none => none)
  | some (.tup ds) => (match vw sl S x with
    | some d => if pl d = true ∧ pls ds = true ∧ (py d).depth ≤ 60 then some (.bl (if neg then !(ds.any fun z => deq z d) else ds.any fun z => deq z d)) else none
    | none => none)
  | some (.dct t kvs) => (match dv sl x with
    | some k => if okKey t k = true then some (.bl (if neg then !(dlk kvs k).isSome else (dlk kvs k).isSome)) else none
    | none => none)
  | _ => none
theorem any_pys (d : D) : ∀ ds : List D, (pys ds).any (fun z => PyData.eqv z (py d)) = ds.any fun z => deq z d
  | [] => rfl
  | e :: ds => by rw [pys, List.any_cons, List.any_cons, any_pys d ds]; rfl
theorem repOp_some {C : Cf} {W : Addr → Prop} {al : Nat → Addr} {N : Nat} {H : Hp} {o : Option D} {p : Option V} (h : RepOp C W al N H o p) : o.isSome = p.isSome := by
  cases o <;> cases p <;> first | rfl | exact h.elim
theorem repOu_some {C : Cf} {W : Addr → Prop} {al : Nat → Addr} {N : Nat} {H : Hp} {o : Option D} {p : Option Value} (h : RepOu C W al N H o p) : o.isSome = p.isSome := by
  cases o <;> cases p <;> first | rfl | exact h.elim
theorem opS_in {neg : Bool} : OpS (cf X) (gIn neg) (rInG X neg) := by
  intro U ad sl S σ H x y vx vy d Q s rx ry e q
  unfold gIn at e
  split at e
  · rename_i ds h1
    split at e
    · rename_i d0 h2
      split at e
      · rename_i hc
        cases e
        have q1 := (s.view ry h1).dp (d := .lst ds) hc.2.1
        rw [py] at q1
        refine .inl ⟨py d0, pys ds, (s.view rx h2).dp hc.1, .inl q1, plain_py _, plain_pys _, hc.2.2, ?_⟩
        rw [any_pys]
        exact fin0 s q (.bl _)
      · cases e
    · cases e
  · rename_i ds h1
    split at e
    · rename_i d0 h2
      split at e
      · rename_i hc
        cases e
        have q1 := (s.view ry h1).dp (d := .tup ds) hc.2.1
        rw [py] at q1
        refine .inl ⟨py d0, pys ds, (s.view rx h2).dp hc.1, .inr q1, plain_py _, plain_pys _, hc.2.2, ?_⟩
        rw [any_pys]
        exact fin0 s q (.bl _)
      · cases e
    · cases e
  · rename_i t kvs h1
    split at e
    · rename_i k h2
      split at e
      · rename_i hk
        cases e
        have q1 := s.view ry h1
        have q2 := s.dv rx h2
        cases q1 with
        | dct rd rh =>
          cases rh with
          | dctM rk =>
            simp only [okKey, Bool.false_eq_true, if_false] at hk
            obtain ⟨k', hk'⟩ := Option.isSome_iff_exists.mp hk
            rw [rep_ky q2 hk']
            refine .inr (.inl ⟨_, _, rfl, .inl ⟨_, k', rd, rfl, rfl⟩, ?_⟩)
            rw [← repOp_some (rk.look hk')]
            exact fin0 s q (.bl _)
          | dctN rk =>
            obtain ⟨k', ka, rfl, hk', n⟩ := nat_of X rd rk q2 hk
            refine .inr (.inr ⟨_, _, k', ka, rfl, n, ?_⟩)
            have z := repOu_some (rk.look hk')
            rw [Option.isSome_map] at z
            rw [← z]
            exact fin0 s q (.bl _)
      · cases e
    · cases e
  · cases e
theorem o_in (hu : X.A.units + 64 < cLine) : OpR X (compareOp .In) (rInG X false) ∧ OpS (cf X) (gIn false) (rInG X false) := ⟨op_inG hu, opS_in⟩
theorem o_nin (hu : X.A.units + 64 < cLine) : OpR X (compareOp .NotIn) (rInG X true) ∧ OpS (cf X) (gIn true) (rInG X true) := ⟨op_ninG hu, opS_in⟩

/-! ### is None, is True .. -/
def gIs (neg : Bool) : F2 := fun sl S x y => match dv sl y with
  | some .non => (match dv sl x with
    | some .non => some (.bl !neg)
    | some (.bl _) => some (.bl neg)
    | some (.int _) => some (.bl neg)
    | some (.str _) => some (.bl neg)
    | some (.tup _) => some (.bl neg)
    | some (.lst _) => some (.bl neg)
    | some (.dct _ _) => some (.bl neg)
    | some (.ins _ _) => some (.bl neg)
    | some (.loc _) => some (.bl neg)
    | _ => none)
  | some (.bl b) => (match dv sl x with
    | some (.bl a) => some (.bl (if neg then !decide (a = b) else decide (a = b)))
    | _ => none)
  | _ => none
def rIsG (neg : Bool) : R2 := fun x y H Q => (y = .non ∧ Q (.bl (if neg then !decide (x = .non) else decide (x = .non))) H) ∨ (∃ a b : Bool, x = .bl a ∧ y = .bl b ∧ Q (.bl (if neg then !decide (a = b) else decide (a = b))) H)
theorem op_isG : OpR X (compareOp .Is) (rIsG false) := by
  intro pins s σ H x y v u Q I rx ry h
  rcases h with h | h
  · exact op_isN pins s σ H x y v u Q I rx ry h
  · exact op_isBl pins s σ H x y v u Q I rx ry h
theorem op_isnG : OpR X (compareOp .IsNot) (rIsG true) := by
  intro pins s σ H x y v u Q I rx ry h
  rcases h with h | h
  · exact op_notN pins s σ H x y v u Q I rx ry h
  · exact op_notBl pins s σ H x y v u Q I rx ry h
theorem opS_is {C : Cf} {neg : Bool} : OpS C (gIs neg) (rIsG neg) := by
  intro U ad sl S σ H x y vx vy d Q s rx ry e q
  unfold gIs at e
  split at e
  · rename_i h1
    have q1 := s.dv ry h1
    cases q1
    have key : ∀ d0, dv sl x = some d0 → Rep C (Wr U ad sl S) (lc ad) S.length H d0 vx := fun d0 h => s.dv rx h
    refine .inl ⟨rfl, ?_⟩
    have fin : ∀ b : Bool, d = .bl b → (if neg = true then !decide (vx = .non) else decide (vx = .non)) = b → Q (.bl (if neg = true then !decide (vx = .non) else decide (vx = .non))) H := fun b e1 e2 => by
      rw [e2]; subst e1; exact fin0 s q (.bl b)
    split at e <;> first
      | (rename_i h2; cases e; have q2 := key _ h2; cases q2 <;> exact fin _ rfl (by cases neg <;> simp))
      | cases e
  · rename_i b h1
    have q1 := s.dv ry h1
    cases q1
    split at e
    · rename_i a h2
      cases e
      have q2 := s.dv rx h2
      cases q2
      exact .inr ⟨a, b, rfl, rfl, fin0 s q (.bl _)⟩
    · cases e
  · cases e
theorem o_is : OpR X (compareOp .Is) (rIsG false) ∧ OpS (cf X) (gIs false) (rIsG false) := ⟨op_isG, opS_is⟩
theorem o_isn : OpR X (compareOp .IsNot) (rIsG true) ∧ OpS (cf X) (gIs true) (rIsG true) := ⟨op_isnG, opS_is⟩
end
end PS

namespace PS
open PySem PySem.Spec PyProof.Rows L2

/-! ### argument lists -/
inductive RepRs (C : Cf) (W : Addr → Prop) (al : Nat → Addr) (N : Nat) (H : Hp) (σ : L2.St) : List Rf → List V → Prop
  | nil : RepRs C W al N H σ [] []
  | cons {r : Rf} {v : V} {rs : List Rf} {vs : List V} : RepR C W al N H σ r v → RepRs C W al N H σ rs vs → RepRs C W al N H σ (r :: rs) (v :: vs)
def rRs : Rl (List Rf) (List V) := RepRs
theorem RepRs.mono {C : Cf} {W W' : Addr → Prop} {al al' : Nat → Addr} {N N' : Nat} {H H' : Hp} {σ : L2.St} (e : Ext W al N H W' al' N' H') : ∀ {rs : List Rf} {vs : List V}, RepRs C W al N H σ rs vs → RepRs C W' al' N' H' σ rs vs
  | _, _, .nil => .nil
  | _, _, .cons r t => .cons (rR_mono e r) (RepRs.mono e t)
/-- operands of a built-in -/
def EB (X : Cx) (es : List Expr) (m : M (List Rf)) : Prop := PA X es (tX rRs (cf X) m)
def aN {α : Type} : M (List α) := mPure []
def aC {α : Type} (m : M α) (n : M (List α)) : M (List α) := mBind m fun d => mBind n fun ds => mPure (d :: ds)
/-- *e -/
def aS (m : M Rf) (n : M (List D)) : M (List D) := mBind m fun r => fun sl S => match vw sl S r with
  | some (.lst ds) => mBind n (fun es => mPure (ds ++ es)) sl S
  | some (.tup ds) => mBind n (fun es => mPure (ds ++ es)) sl S
  | _ => none
section
variable {X : Cx} {e : Expr} {es : List Expr} {pos p : Pos} {m : M D} {n : M (List D)} {mr : M Rf} {nr : M (List Rf)}
theorem ea_nil : EA X [] aN := pa_imp pa_nil fun σ H Q q => by
  obtain ⟨U, ad, sl, S, a, sl', S', s, e, k⟩ := q
  cases e
  exact k ad H [] s Nx.refl .nil
theorem eb_nil : EB X [] aN := pa_imp pa_nil fun σ H Q q => by
  obtain ⟨U, ad, sl, S, a, sl', S', s, e, k⟩ := q
  cases e
  exact k ad H [] s Nx.refl .nil
theorem ea_cons (h : EE X e m) (k : EA X es n) (hs : starEach (e :: es) X.env = (false, eval e X.env) :: starEach es X.env := by rfl) : EA X (e :: es) (aC m n) := pa_imp (pa_cons h k hs) fun σ H Q q => by
  refine tX_bind q fun U ad sl S d ds sl' S' H1 v s r e q => ?_
  obtain ⟨es', sl1, S1, e1, e2⟩ := mBind_some e
  cases e2
  exact ⟨U, ad, sl, S, es', _, _, s, e1, fun ad1 H2 vs s1 n1 r1 => q ad1 H2 _ s1 n1 (.cons (Rep.mono n1.ext r) r1)⟩
theorem eb_cons (h : ER X e mr) (k : EB X es nr) (hs : starEach (e :: es) X.env = (false, eval e X.env) :: starEach es X.env := by rfl) : EB X (e :: es) (aC mr nr) := pa_imp (pa_cons h k hs) fun σ H Q q => by
  refine tX_bind q fun U ad sl S d ds sl' S' H1 v s r e q => ?_
  obtain ⟨es', sl1, S1, e1, e2⟩ := mBind_some e
  cases e2
  exact ⟨U, ad, sl, S, es', _, _, s, e1, fun ad1 H2 vs s1 n1 r1 => q ad1 H2 _ s1 n1 (.cons (rR_mono n1.ext r) r1)⟩
theorem ea_star (h : ER X e mr) (k : EA X es n) (hs : starEach (.Starred e p :: es) X.env = (true, eval e X.env) :: starEach es X.env := by rfl) : EA X (.Starred e p :: es) (aS mr n) := pa_imp (StX.pa_star h k hs) fun σ H Q q => by
  refine tX_bind q fun U ad sl S rf ds sl' S' H1 v s r e q => ?_
  have fin : ∀ (es : List D) (a : Addr) (vs : List V), (SqT X.K H1 a vs ∨ SqL X.K H1 a vs) → v = .ref a → Reps (cf X) (Wr U ad sl S) (lc ad) S.length H1 es vs → mBind n (fun es' => mPure (es ++ es')) sl S = some (ds, sl', S') →
      ∃ a xs, v = .ref a ∧ (SqT X.K H1 a xs ∨ SqL X.K H1 a xs) ∧ tX rL (cf X) n σ H1 fun ys H2 => Q (xs ++ ys) H2 := fun es a vs h1 h2 h3 h4 => by
    refine ⟨a, vs, h2, h1, ?_⟩
    obtain ⟨es', sl1, S1, e1, e2⟩ := mBind_some h4
    cases e2
    exact ⟨U, ad, sl, S, es', _, _, s, e1, fun ad1 H2 ws s1 n1 r1 => q ad1 H2 _ s1 n1 ((Reps.mono n1.ext h3).append r1)⟩
  split at e
  · rename_i es h1
    have q1 := s.view r h1
    cases q1 with
    | lst k1 r1 => exact fin es _ _ (.inr k1) rfl r1 e
  · rename_i es h1
    have q1 := s.view r h1
    cases q1 with
    | tup k1 r1 _ => exact fin es _ _ (.inl k1) rfl r1 e
  · cases e
end

/-! ### new objects -/
/-- a new object: what it holds -/
def tN (C : Cf) (m : M Ob) : TE := fun σ H Q => ∃ U ad sl S ob sl' S', Sim C U ad sl S σ H ∧ m sl S = some (ob, sl', S') ∧
  ∀ ad' H1 p ho, Sim C U ad' sl' S' σ H1 → Nx U ad sl S H ad' sl' S' H1 → H1 p = none → mtb ho → RepH C (Wr U ad' sl' S') (lc ad') S'.length H1 p ob ho → Q (.ref p) (upd H1 p ho)
def EN (X : Cx) (e : Expr) (m : M Ob) : Prop := PE X e (tN (cf X) m)
/-- as a value that is not written -/
def nFz (m : M Ob) : M D := mBind m fun ob => mPure ob.fz
/-- as an object of the store -/
def nBx (m : M Ob) : M D := mBind m fun ob => fun sl S => some (.loc S.length, sl, S ++ [ob])
def nLst (m : M (List D)) : M Ob := mBind m fun ds => fun sl S => if ds.length ≤ sizeLine then some (.lst ds, sl, S) else none
def nTup (m : M (List D)) : M D := mBind m fun ds => fun sl S => if ds.length ≤ sizeLine then some (.tup ds, sl, S) else none
section
variable {X : Cx} {e : Expr} {es : List Expr} {pos p : Pos} {m : M Ob} {n : M (List D)}
theorem tN_of {C : Cf} {m : M Ob} {f : Ob → M D} {σ : L2.St} {H : Hp} {Q : VK} (h : tX rD C (mBind m f) σ H Q)
    (k : ∀ U ad sl S ob d sl' S' H1 p ho, Sim C U ad sl S σ H1 → f ob sl S = some (d, sl', S') → tY rD C U ad sl S H1 d sl' S' σ Q → H1 p = none → mtb ho → RepH C (Wr U ad sl S) (lc ad) S.length H1 p ob ho → Q (.ref p) (upd H1 p ho)) : tN C m σ H Q := by
  obtain ⟨U, ad, sl, S, d, sl', S', s, e, q⟩ := h
  obtain ⟨ob, sl1, S1, e1, e2⟩ := mBind_some e
  refine ⟨U, ad, sl, S, ob, sl1, S1, s, e1, fun ad1 H1 p ho s1 n1 hp hm hr => ?_⟩
  exact k U ad1 sl1 S1 ob d sl' S' H1 p ho s1 e2 (fun ad2 H2 z s2 n2 r2 => q ad2 H2 z s2 (n1.trans n2) r2) hp hm hr
theorem ee_fz (h : EN X e m) : EE X e (nFz m) := pe_imp h fun σ H Q q => tN_of q fun U ad sl S ob d sl' S' H1 p ho s e k hp hm hr => by
  cases e
  obtain ⟨s', n⟩ := s.laid (o := ho) hp
  exact k ad _ _ s' n (fz_rep (s.fresh hp) upd_same (hr.mono n.ext))
theorem ee_bx (h : EN X e m) : EE X e (nBx m) := pe_imp h fun σ H Q q => tN_of q fun U ad sl S ob d sl' S' H1 p ho s e k hp hm hr => by
  cases e
  obtain ⟨ad', s', n, ea⟩ := s.box hp hm hr
  refine k ad' _ _ s' n ?_
  have z : Rep (cf X) (Wr U ad' sl (S ++ [ob])) (lc ad') (S ++ [ob]).length (upd H1 p ho) (.loc S.length) (.ref (lc ad' S.length)) := .loc (by simp)
  rw [show lc ad' S.length = p from ea] at z
  exact z
theorem en_lst (h : EA X es n) : EN X (.List es pos) (nLst n) := pe_imp (pe_lst h) fun σ H Q q => by
  obtain ⟨U, ad, sl, S, ob, sl', S', s, e, k⟩ := q
  obtain ⟨ds, sl1, S1, e1, e2⟩ := mBind_some e
  split at e2
  · rename_i hz
    cases e2
    exact ⟨U, ad, sl, S, ds, _, _, s, e1, fun ad1 H1 vs s1 n1 r1 => ⟨by rw [← Reps.length r1]; exact hz, fun p hp => k ad1 H1 p _ s1 n1 hp True.intro (.lst r1)⟩⟩
  · cases e2
theorem ee_tup {x1} (h : EA X es n) : EE X (.Tuple es x1 pos) (nTup n) := pe_imp (pe_tupF h) fun σ H Q q => by
  refine tX_bind q fun U ad sl S ds d sl' S' H1 vs s r e q => ?_
  split at e
  · rename_i hz
    cases e
    refine ⟨by rw [← Reps.length r]; exact hz, fun p o hp ho => finT s q r hp ho⟩
  · cases e
/-- {} -/
def nDct (t : Bool) : M Ob := mPure (.dct t [])
theorem en_dM : EN X (.Dict [] [] pos) (nDct false) := pe_imp pe_dnewK fun σ H Q q => by
  obtain ⟨U, ad, sl, S, ob, sl', S', s, e, k⟩ := q
  cases e
  exact fun p hp => k ad H p _ s Nx.refl hp True.intro (.dctM .nil)
theorem en_dN : EN X (.Dict [] [] pos) (nDct true) := by
  refine ⟨fun pins s σ H Q I q => ?_⟩
  obtain ⟨U, ad, sl, S, ob, sl', S', sm, e, k⟩ := q
  cases e
  have hf := I.hok.fresh (Nat.le_refl s.heap.objs.size)
  refine wpAny_Dict_empty ⟨.ref s.heap.objs.size, _, I.laid (a := s.heap.objs.size) (o := dphi (cf X) s.heap.objs.size []) (t' := s.toks) (fun _ _ q => Heap.get?_push_of_some _ q) (Nat.le_refl _) ?_, rfl, k ad H _ _ sm Nx.refl hf True.intro (.dctN .nil)⟩
  exact dphi_ok rfl rfl (beq_eq_false_iff_ne.mpr (Ne.symm (Nat.ne_of_lt I.big))) (Nat.zero_le _) (Heap.DictOfH.new s.heap)
end
end PS

namespace PS
open PySem PySem.Spec PyProof.Rows L2

/-! ### statements -/
inductive Fl where
  | nx
  | rt (d : D)
  | bk
  | ct
abbrev MS := Sl → Sto → Option (Fl × Sl × Sto)
def endS (C : Cf) (W : Addr → Prop) (al : Nat → Addr) (N : Nat) (D : Ends) (σ : L2.St) (H : Hp) : Fl → Prop
  | .nx => D.nx σ H
  | .bk => D.bk σ H
  | .ct => D.ct σ H
  | .rt d => ∀ v, Rep C W al N H d v → D.rt v H
def tS (C : Cf) (m : MS) : TS := fun D σ H => ∃ U ad sl S fl sl' S', Sim C U ad sl S σ H ∧ m sl S = some (fl, sl', S') ∧
  ∀ ad' H' σ', Sim C U ad' sl' S' σ' H' → Nx U ad sl S H ad' sl' S' H' → endS C (Wr U ad' sl' S') (lc ad') S'.length D σ' H' fl
def ES (X : Cx) (st : Stmt) (m : MS) : Prop := L2.PS X st (tS (cf X) m)
def ESs (X : Cx) (st : List Stmt) (m : MS) : Prop := PSs X st (tS (cf X) m)
def sNx : MS := fun sl S => some (.nx, sl, S)
def sBk : MS := fun sl S => some (.bk, sl, S)
def sCt : MS := fun sl S => some (.ct, sl, S)
def sNo : MS := fun _ _ => none
def sSeq (a b : MS) : MS := fun sl S => match a sl S with
  | some (.nx, sl', S') => b sl' S'
  | r => r
def sRet (m : M D) : MS := fun sl S => match m sl S with
  | some (d, sl', S') => some (.rt d, sl', S')
  | none => none
def sDrop {α : Type} (m : M α) : MS := fun sl S => match m sl S with
  | some (_, sl', S') => some (.nx, sl', S')
  | none => none
def sIf (t : M Bool) (a b : MS) : MS := fun sl S => match t sl S with
  | some (c, sl', S') => if c = true then a sl' S' else b sl' S'
  | none => none
section
variable {X : Cx} {st : Stmt} {rest : List Stmt} {e : Expr} {m n : MS} {md : M D} {mr : M Rf} {t : M Bool} {pos : Pos}
theorem ess_nil : ESs X [] sNx := pss_imp pss_nil fun D σ H q => by
  obtain ⟨U, ad, sl, S, fl, sl', S', s, e, k⟩ := q
  cases e
  exact k ad H σ s Nx.refl
theorem ess_one (h : ES X st m) : ESs X [st] m := pss_one h
theorem ess_cons (h1 : ES X st m) (h2 : ESs X rest n) : ESs X (st :: rest) (sSeq m n) := pss_imp (pss_cons h1 h2) fun D σ H q => by
  obtain ⟨U, ad, sl, S, fl, sl', S', s, e, k⟩ := q
  unfold sSeq at e
  split at e
  · rename_i sl1 S1 e1
    refine ⟨U, ad, sl, S, .nx, sl1, S1, s, e1, fun ad1 H1 σ1 s1 n1 => ?_⟩
    exact ⟨U, ad1, sl1, S1, fl, sl', S', s1, e, fun ad2 H2 σ2 s2 n2 => k ad2 H2 σ2 s2 (n1.trans n2)⟩
  · rename_i hne
    refine ⟨U, ad, sl, S, fl, sl', S', s, e, fun ad1 H1 σ1 s1 n1 => ?_⟩
    have q := k ad1 H1 σ1 s1 n1
    cases fl with
    | nx => exact absurd e (hne _ _)
    | rt d => exact q
    | bk => exact q
    | ct => exact q
theorem es_pass : ES X (.Pass pos) sNx := ps_imp ps_pass fun D σ H q => by
  obtain ⟨U, ad, sl, S, fl, sl', S', s, e, k⟩ := q
  cases e
  exact k ad H σ s Nx.refl
theorem es_doc {x j pos pos'} : ES X (.Expr (.Constant (.str x) j pos) pos') sNx := ps_imp ps_doc fun D σ H q => by
  obtain ⟨U, ad, sl, S, fl, sl', S', s, e, k⟩ := q
  cases e
  exact k ad H σ s Nx.refl
theorem es_break : ES X (.Break pos) sBk := ps_imp ps_break fun D σ H q => by
  obtain ⟨U, ad, sl, S, fl, sl', S', s, e, k⟩ := q
  cases e
  exact k ad H σ s Nx.refl
theorem es_cont : ES X (.Continue pos) sCt := ps_imp ps_continue fun D σ H q => by
  obtain ⟨U, ad, sl, S, fl, sl', S', s, e, k⟩ := q
  cases e
  exact k ad H σ s Nx.refl
theorem es_no : ES X st sNo := ps_imp ps_never fun D σ H q => by
  obtain ⟨U, ad, sl, S, fl, sl', S', s, e, k⟩ := q
  cases e
theorem ess_no {sts : List Stmt} : ESs X sts sNo := pss_imp pss_never fun D σ H q => by
  obtain ⟨U, ad, sl, S, fl, sl', S', s, e, k⟩ := q
  cases e
theorem es_ret (h : EE X e md) : ES X (.Return (some e) pos) (sRet md) := ps_imp (ps_ret h) fun D σ H q => by
  obtain ⟨U, ad, sl, S, fl, sl', S', s, e, k⟩ := q
  unfold sRet at e
  split at e
  · rename_i d sl1 S1 e1
    cases e
    exact ⟨U, ad, sl, S, d, _, _, s, e1, fun ad1 H1 v s1 n1 r => k ad1 H1 σ s1 n1 v r⟩
  · cases e
theorem es_retN : ES X (.Return none pos) (sRet (cs .non)) := ps_imp ps_retN fun D σ H q => by
  obtain ⟨U, ad, sl, S, fl, sl', S', s, e, k⟩ := q
  cases e
  exact k ad H σ s Nx.refl .non .non
theorem es_expr (h : EE X e md) (hs : swapsWith e none pos.line X.env = pure false := by rfl) : ES X (.Expr e pos) (sDrop md) := ps_imp (ps_expr h hs) fun D σ H q => by
  obtain ⟨U, ad, sl, S, fl, sl', S', s, e, k⟩ := q
  unfold sDrop at e
  split at e
  · rename_i d sl1 S1 e1
    cases e
    exact ⟨U, ad, sl, S, d, _, _, s, e1, fun ad1 H1 v s1 n1 r => k ad1 H1 σ s1 n1⟩
  · cases e
theorem es_if {c : Expr} {a b : List Stmt} (hc : ET X c t) (ha : ESs X a m) (hb : ESs X b n) : ES X (.If c a b pos) (sIf t m n) := ps_imp (ps_if hc ha hb) fun D σ H q => by
  obtain ⟨U, ad, sl, S, fl, sl', S', s, e, k⟩ := q
  unfold sIf at e
  split at e
  · rename_i c sl1 S1 e1
    refine ⟨U, ad, sl, S, c, sl1, S1, s, e1, fun ad1 H1 v s1 n1 r => ?_⟩
    cases r
    cases c with
    | true => exact ⟨U, ad1, sl1, S1, fl, sl', S', s1, e, fun ad2 H2 σ2 s2 n2 => k ad2 H2 σ2 s2 (n1.trans n2)⟩
    | false => exact ⟨U, ad1, sl1, S1, fl, sl', S', s1, e, fun ad2 H2 σ2 s2 n2 => k ad2 H2 σ2 s2 (n1.trans n2)⟩
  · cases e
end

/-! ### targets -/
abbrev MG := D → Sl → Sto → Option (Sl × Sto)
/-- the names that a target stores -/
def Ch (vs : List Nat) (σ σ' : L2.St) : Prop := σ'.length = σ.length ∧ ∀ j, j ∉ vs → σ'[j]? = σ[j]?
theorem Ch.refl {vs : List Nat} {σ : L2.St} : Ch vs σ σ := ⟨rfl, fun _ _ => rfl⟩
def tG (C : Cf) (vs : List Nat) (g : MG) : TG := fun v σ H Q => ∃ U ad sl S d sl' S', Sim C U ad sl S σ H ∧ Rep C (Wr U ad sl S) (lc ad) S.length H d v ∧ g d sl S = some (sl', S') ∧
  ∀ ad' H' σ', Sim C U ad' sl' S' σ' H' → Nx U ad sl S H ad' sl' S' H' → Ch vs σ σ' → Q σ' H'
def tGs (C : Cf) (us : List Nat) (g : List D → Sl → Sto → Option (Sl × Sto)) : TGs := fun vs σ H Q => ∃ U ad sl S ds sl' S', Sim C U ad sl S σ H ∧ Reps C (Wr U ad sl S) (lc ad) S.length H ds vs ∧ g ds sl S = some (sl', S') ∧
  ∀ ad' H' σ', Sim C U ad' sl' S' σ' H' → Nx U ad sl S H ad' sl' S' H' → Ch us σ σ' → Q σ' H'
def EG (X : Cx) (e : Expr) (vs : List Nat) (g : MG) : Prop := PG X e (tG (cf X) vs g)
def EGs (X : Cx) (es : List Expr) (vs : List Nat) (g : List D → Sl → Sto → Option (Sl × Sto)) : Prop := PGs X es (tGs (cf X) vs g)
def gN (i : Nat) : MG := fun d sl S => if i < sl.length then some (sl.set i (some (.val d)), S) else none
def gsN : List D → Sl → Sto → Option (Sl × Sto) := fun ds sl S => match ds with
  | [] => some (sl, S)
  | _ => none
def gsC (g : MG) (gs : List D → Sl → Sto → Option (Sl × Sto)) : List D → Sl → Sto → Option (Sl × Sto) := fun ds sl S => match ds with
  | d :: ds => match g d sl S with
    | some (sl', S') => gs ds sl' S'
    | none => none
  | [] => none
def gT (n : Nat) (gs : List D → Sl → Sto → Option (Sl × Sto)) : MG := fun d sl S => match d with
  | .tup ds => if ds.length = n then gs ds sl S else none
  | .pr ds => if ds.length = n then gs ds sl S else none
  | _ => none
def sAsg (m : M D) (g : MG) : MS := fun sl S => match m sl S with
  | some (d, sl', S') => match g d sl' S' with
    | some (sl2, S2) => some (.nx, sl2, S2)
    | none => none
  | none => none
section
variable {X : Cx} {e tg : Expr} {es : List Expr} {g : MG} {gs : List D → Sl → Sto → Option (Sl × Sto)} {md : M D} {pos : Pos} {us ws : List Nat}
theorem pg_imp {t t' : TG} (h : PG X e t) (k : ∀ v σ H Q, t' v σ H Q → t v σ H Q) : PG X e t' := ⟨fun pins s σ H v u Q I r q => h.run pins s σ H v u Q I r (k v σ H Q q)⟩
theorem pgs_imp {t t' : TGs} (h : PGs X es t) (k : ∀ v σ H Q, t' v σ H Q → t v σ H Q) : PGs X es t' := ⟨fun pins s σ H v u Q I r q => h.run pins s σ H v u Q I r (k v σ H Q q)⟩
theorem eg_n (i : Nat) {x : Str} (hN : X.N.Nodup) (hi : X.N[i]? = some x := by rfl) (hx : Loc X.env.scope x := by first | exact Or.inl rfl | exact Or.inr rfl) (hf : X.fn x = true ∨ X.env.scope.names.lookup x = some .local := by first | exact .inl rfl | exact .inr rfl) : EG X (.Name x pos) [i] (gN i) :=
  pg_imp (pg_name hN hi hx hf) fun v σ H Q q => by
    obtain ⟨U, ad, sl, S, d, sl', S', s, r, e, k⟩ := q
    unfold gN at e
    split at e
    · rename_i hl
      cases e
      obtain ⟨s', n⟩ := s.setVal hl r
      exact k ad H _ s' n ⟨List.length_set, fun j hj => List.getElem?_set_ne (fun z => hj (by rw [z]; exact List.mem_singleton.mpr rfl))⟩
    · cases e
theorem egs_nil : EGs X [] [] gsN := pgs_imp pgs_nil fun v σ H Q q => by
  obtain ⟨U, ad, sl, S, d, sl', S', s, r, e, k⟩ := q
  cases r with
  | nil => cases e; exact ⟨rfl, k ad H σ s Nx.refl Ch.refl⟩
  | cons => cases e
theorem egs_cons (h1 : EG X e us g) (h2 : EGs X es ws gs) (hs : (assignEach (e :: es) X.env).map (·.2) = assign e X.env :: (assignEach es X.env).map (·.2) := by rfl) : EGs X (e :: es) (us ++ ws) (gsC g gs) := pgs_imp (pgs_cons h1 h2 hs) fun v σ H Q q => by
  obtain ⟨U, ad, sl, S, d, sl', S', s, r, e, k⟩ := q
  cases r with
  | nil => cases e
  | @cons d v ds vs r rs =>
    simp only [gsC] at e
    split at e
    · rename_i sl1 S1 e1
      refine ⟨v, vs, rfl, U, ad, sl, S, d, sl1, S1, s, r, e1, fun ad1 H1 σ1 s1 n1 c1 => ?_⟩
      exact ⟨U, ad1, sl1, S1, ds, sl', S', s1, Reps.mono n1.ext rs, e, fun ad2 H2 σ2 s2 n2 c2 => k ad2 H2 σ2 s2 (n1.trans n2) ⟨c2.1.trans c1.1, fun j hj => (c2.2 j fun z => hj (List.mem_append_right _ z)).trans (c1.2 j fun z => hj (List.mem_append_left _ z))⟩⟩
    · cases e
theorem eg_t {kk : Nat} {n : Nat} (hc : X.calm = true) (h : EGs X es us gs) (hn : (assignEach es X.env).length = n := by rfl) (hst : (assignEach es X.env).findIdx? (·.1) = none := by rfl) : EG X (.Tuple es kk pos) us (gT n gs) :=
  pg_imp (pg_tup hc h hn hst) fun v σ H Q q => by
    obtain ⟨U, ad, sl, S, d, sl', S', s, r, e, k⟩ := q
    cases d with
    | tup ds =>
      simp only [gT] at e
      split at e
      · rename_i hl
        have fin : ∀ a vs, SqT X.K H a vs → Reps (cf X) (Wr U ad sl S) (lc ad) S.length H ds vs → v = .ref a → gTup X.K n (tGs (cf X) us gs) v σ H Q := fun a vs q1 q2 q3 =>
          ⟨a, vs, q3, q1, by rw [← Reps.length q2]; exact hl, U, ad, sl, S, ds, sl', S', s, q2, e, k⟩
        cases r with
        | tup w h1 r => exact fin _ _ (.inl h1.rd) r rfl
        | ktup h1 r => exact fin _ _ h1.sq r rfl
      · cases e
    | pr ds =>
      simp only [gT] at e
      split at e
      · rename_i hl
        cases r with
        | pr w h1 r => exact ⟨_, _, rfl, .inl h1, by rw [← Reps.length r]; exact hl, U, ad, sl, S, ds, sl', S', s, r, e, k⟩
      · cases e
    | _ => cases e
theorem tAsg_of {C : Cf} {D : Ends} {σ : L2.St} {H : Hp} (h : tS C (sAsg md g) D σ H) : tAsg (tX rD C md) (tG C us g) D σ H := by
  obtain ⟨U, ad, sl, S, fl, sl', S', s, e, k⟩ := h
  unfold sAsg at e
  split at e
  · rename_i d sl1 S1 e1
    split at e
    · rename_i sl2 S2 e2
      cases e
      exact ⟨U, ad, sl, S, d, sl1, S1, s, e1, fun ad1 H1 v s1 n1 r1 => ⟨U, ad1, sl1, S1, d, _, _, s1, r1, e2, fun ad2 H2 σ2 s2 n2 _ => k ad2 H2 σ2 s2 (n1.trans n2)⟩⟩
    · cases e
  · cases e
theorem es_asg {e : Expr} (he : EE X e md) (hg : EG X tg us g) (hs : swapsWithSole [tg] e pos.line X.env = pure false := by rfl) (hw : swappedStores [tg] e X.env = pure none := by rfl)
    (h1 : (assignEach [tg] X.env).map (·.2) = [assign tg X.env] := by rfl) : ES X (.Assign [tg] e pos) (sAsg md g) := ps_imp (ps_asg he hg hs hw h1) fun D σ H q => tAsg_of q
/-- name = value -/
abbrev sSet (i : Nat) (m : M D) : MS := sAsg m (gN i)
theorem es_set (i : Nat) {x : Str} {e : Expr} {pos' : Pos} (hN : X.N.Nodup) (he : EE X e md) (hi : X.N[i]? = some x := by rfl) (hx : Loc X.env.scope x := by first | exact Or.inl rfl | exact Or.inr rfl) (hs : swapsWith e (some (.Name x pos')) pos.line X.env = pure false := by rfl) (hf : X.fn x = true ∨ X.env.scope.names.lookup x = some .local := by first | exact .inl rfl | exact .inr rfl) :
    ES X (.Assign [.Name x pos'] e pos) (sSet i md) := ps_imp (ps_set hN hi hx he hs hf) fun D σ H q => by
  obtain ⟨U, ad, sl, S, fl, sl', S', s, e, k⟩ := q
  simp only [sSet, sAsg] at e
  split at e
  · rename_i d sl1 S1 e1
    split at e
    · rename_i sl2 S2 e2
      cases e
      unfold gN at e2
      split at e2
      · rename_i hl
        cases e2
        refine ⟨U, ad, sl, S, d, sl1, _, s, e1, fun ad1 H1 v s1 n1 r1 => ?_⟩
        obtain ⟨s', n⟩ := s1.setVal hl r1
        exact k ad1 H1 _ s' (n1.trans n)
      · cases e2
    · cases e
  · cases e
/-- name = a new object, the name its only holder -/
def sOwn (i : Nat) (m : M Ob) : MS := fun sl S => match m sl S with
  | some (ob, sl', S') => if i < sl'.length then some (.nx, sl'.set i (some (.own ob)), S') else none
  | none => none
theorem sOwn_of {C : Cf} {i : Nat} {m : M Ob} {D : Ends} {σ : L2.St} {H : Hp} (h : tS C (sOwn i m) D σ H) : tAsg (tN C m) (gName i) D σ H := by
  obtain ⟨U, ad, sl, S, fl, sl', S', s, e, k⟩ := h
  unfold sOwn at e
  split at e
  · rename_i ob sl1 S1 e1
    split at e
    · rename_i hl
      cases e
      refine ⟨U, ad, sl, S, ob, sl1, _, s, e1, fun ad1 H1 p ho s1 n1 hp hm hr => ?_⟩
      obtain ⟨ad2, s', n⟩ := s1.setOwn hl hp hm hr
      exact k ad2 _ _ s' (n1.trans n)
    · cases e
  · cases e
theorem es_own (i : Nat) {x : Str} {e : Expr} {m : M Ob} {pos' : Pos} (hN : X.N.Nodup) (he : EN X e m) (hi : X.N[i]? = some x := by rfl) (hx : Loc X.env.scope x := by first | exact Or.inl rfl | exact Or.inr rfl) (hs : swapsWith e (some (.Name x pos')) pos.line X.env = pure false := by rfl) (hf : X.fn x = true ∨ X.env.scope.names.lookup x = some .local := by first | exact .inl rfl | exact .inr rfl) :
    ES X (.Assign [.Name x pos'] e pos) (sOwn i m) := ps_imp (ps_set hN hi hx he hs hf) fun D σ H q => sOwn_of q
end

/-! ### a, b = x, y -/
def sPar (i j : Nat) (ma : M (List D)) : MS := fun sl S => match ma sl S with
  | some ([d, e], sl', S') => if i < sl'.length ∧ j < sl'.length then some (.nx, (sl'.set i (some (.val d))).set j (some (.val e)), S') else none
  | _ => none
theorem es_par (i j : Nat) {X : Cx} {x y : Str} {a b : Expr} {ma : M (List D)} {px py pt pos : Pos} {kt k2 pt2} (hc : X.calm = true) (hN : X.N.Nodup) (ha : EA X [a, b] ma) (hi : X.N[i]? = some x := by rfl) (hj : X.N[j]? = some y := by rfl) (hij : i ≠ j := by decide)
    (hx : X.env.scope.names.lookup x = some .local := by rfl) (hy : X.env.scope.names.lookup y = some .local := by rfl)
    (hw : swappedStores [.Tuple [.Name x px, .Name y py] kt pt] (.Tuple [a, b] k2 pt2) X.env = pure (some [x, y]) := by rfl)
    (hs : swapsWithSole [.Tuple [.Name x px, .Name y py] kt pt] (.Tuple [a, b] k2 pt2) pos.line X.env = pure false := by rfl) :
    ES X (.Assign [.Tuple [.Name x px, .Name y py] kt pt] (.Tuple [a, b] k2 pt2) pos) (sPar i j ma) := ps_imp (ps_par hc hN hi hj hij hx hy ha hw hs) fun D σ H q => by
  obtain ⟨U, ad, sl, S, fl, sl', S', s, e, k⟩ := q
  unfold sPar at e
  split at e
  · rename_i d1 d2 sl1 S1 e1
    split at e
    · rename_i hl
      cases e
      refine ⟨U, ad, sl, S, [d1, d2], sl1, _, s, e1, fun ad1 H1 vs s1 n1 r1 => ?_⟩
      cases r1 with
      | cons r rs =>
        cases rs with
        | cons r2 rs =>
          cases rs
          refine ⟨_, _, rfl, ?_⟩
          obtain ⟨s2, n2⟩ := s1.setVal hl.1 r
          obtain ⟨s3, n3⟩ := s2.setVal (i := j) (by simpa using hl.2) (Rep.mono n2.ext r2)
          exact k ad1 H1 _ s3 ((n1.trans n2).trans n3)
    · cases e
  · cases e
end PS

namespace PS
open PySem PySem.Spec PyProof.Rows L2

/-! ### while -/
def whN (t : M Bool) (b : MS) : Nat → MS
  | 0 => sNo
  | n + 1 => fun sl S => match t sl S with
    | some (true, sl1, S1) => match b sl1 S1 with
      | some (.nx, sl2, S2) => whN t b n sl2 S2
      | some (.ct, sl2, S2) => whN t b n sl2 S2
      | some (.bk, sl2, S2) => some (.nx, sl2, S2)
      | some (.rt d, sl2, S2) => some (.rt d, sl2, S2)
      | none => none
    | some (false, sl1, S1) => some (.nx, sl1, S1)
    | none => none
open Classical in
noncomputable def sWh (t : M Bool) (b : MS) : MS := fun sl S => if h : ∃ n, (whN t b n sl S).isSome = true then whN t b h.choose sl S else none
theorem whN_mono {t : M Bool} {b : MS} : ∀ {n m : Nat} {sl : Sl} {S : Sto} {r : Fl × Sl × Sto}, whN t b n sl S = some r → n ≤ m → whN t b m sl S = some r
  | 0, _, _, _, _, h, _ => by cases h
  | n + 1, 0, _, _, _, h, l => absurd l (by omega)
  | n + 1, m + 1, sl, S, r, h, l => by
    simp only [whN] at h ⊢
    split at h
    · rename_i sl1 S1 e1
      split at h
      · rename_i sl2 S2 e2
        exact whN_mono h (by omega)
      · rename_i sl2 S2 e2
        exact whN_mono h (by omega)
      · rename_i sl2 S2 e2
        exact h
      · rename_i d sl2 S2 e2
        exact h
      · cases h
    · rename_i sl1 S1 e1
      exact h
    · cases h
theorem sWh_of {t : M Bool} {b : MS} {n : Nat} {sl : Sl} {S : Sto} {r : Fl × Sl × Sto} (h : whN t b n sl S = some r) : sWh t b sl S = some r := by
  have hx : ∃ n, (whN t b n sl S).isSome = true := ⟨n, by rw [h]; rfl⟩
  unfold sWh
  rw [dif_pos hx]
  obtain ⟨r', e⟩ := Option.isSome_iff_exists.mp hx.choose_spec
  have e1 := whN_mono h (Nat.le_max_left n hx.choose)
  have e2 := whN_mono e (Nat.le_max_right n hx.choose)
  rw [e1] at e2
  rw [e, ← e2]
theorem sWh_ex {t : M Bool} {b : MS} {sl : Sl} {S : Sto} {r : Fl × Sl × Sto} (h : sWh t b sl S = some r) : ∃ n, whN t b n sl S = some r := by
  unfold sWh at h
  split at h
  · exact ⟨_, h⟩
  · cases h
section
variable {X : Cx} {e : Expr} {body : List Stmt} {t : M Bool} {b : MS} {pos : Pos}
theorem es_wh (hp : PassesOwn (model X.prog X.w) X.A X.env X.xe) (hc : ET X e t) (hb : ESs X body b) : ES X (.While e body [] pos) (sWh t b) := ps_imp (ps_while hp hc hb) fun D σ H q => by
  obtain ⟨U, ad, sl, S, fl, sl', S', s, e, k⟩ := q
  obtain ⟨n, e⟩ := sWh_ex e
  refine ⟨fun m σ1 H1 => ∃ ad1 sl1 S1, Sim (cf X) U ad1 sl1 S1 σ1 H1 ∧ Nx U ad sl S H ad1 sl1 S1 H1 ∧ whN t b m sl1 S1 = some (fl, sl', S'), ⟨n, ad, sl, S, s, Nx.refl, e⟩, ?_⟩
  rintro m σ1 H1 ⟨ad1, sl1, S1, s1, n1, e1⟩
  cases m with
  | zero => cases e1
  | succ m =>
    simp only [whN] at e1
    split at e1
    · rename_i sl2 S2 e2
      refine ⟨U, ad1, sl1, S1, true, sl2, S2, s1, e2, fun ad2 H2 c s2 n2 r2 => ?_⟩
      cases r2
      rw [if_pos rfl]
      refine ⟨fun σ3 H3 => ∃ ad3 sl3 S3, Sim (cf X) U ad3 sl3 S3 σ3 H3 ∧ Nx U ad sl S H ad3 sl3 S3 H3 ∧ whN t b m sl3 S3 = some (fl, sl', S'), fun σ3 H3 w => ⟨m, Nat.lt_succ_self m, w⟩, ?_⟩
      split at e1
      · rename_i sl3 S3 e3
        exact ⟨U, ad2, sl2, S2, .nx, sl3, S3, s2, e3, fun ad3 H3 σ3 s3 n3 => ⟨ad3, sl3, S3, s3, (n1.trans n2).trans n3, e1⟩⟩
      · rename_i sl3 S3 e3
        exact ⟨U, ad2, sl2, S2, .ct, sl3, S3, s2, e3, fun ad3 H3 σ3 s3 n3 => ⟨ad3, sl3, S3, s3, (n1.trans n2).trans n3, e1⟩⟩
      · rename_i sl3 S3 e3
        cases e1
        exact ⟨U, ad2, sl2, S2, .bk, _, _, s2, e3, fun ad3 H3 σ3 s3 n3 => k ad3 H3 σ3 s3 ((n1.trans n2).trans n3)⟩
      · rename_i d sl3 S3 e3
        cases e1
        exact ⟨U, ad2, sl2, S2, .rt d, _, _, s2, e3, fun ad3 H3 σ3 s3 n3 => k ad3 H3 σ3 s3 ((n1.trans n2).trans n3)⟩
      · cases e1
    · rename_i sl2 S2 e2
      cases e1
      refine ⟨U, ad1, sl1, S1, false, _, _, s1, e2, fun ad2 H2 c s2 n2 r2 => ?_⟩
      cases r2
      rw [if_neg Bool.false_ne_true]
      exact k ad2 H2 σ1 s2 (n1.trans n2)
    · cases e1
end

/-! ### what a loop walks -/
structure Its where
  ds : List D
  gd : Option (Nat × Ob)
def gdOk : Option (Nat × Ob) → Sto → Prop
  | none, _ => True
  | some (n, ob), S => S[n]? = some ob
def JOK (C : Cf) (W : Addr → Prop) (al : Nat → Addr) (N : Nat) (H0 : Hp) (ds : List D) (gd : Sto → Prop) (J : It) : Prop :=
  ∀ U ad sl S σ H, Sim C U ad sl S σ H → Ext W al N H0 (Wr U ad sl S) (lc ad) S.length H → gd S → ∀ i,
    (∀ d, ds[i]? = some d → J.go i H ∧ ∀ x H', J.yld i H x H' → Sim C U ad sl S σ H' ∧ Nx U ad sl S H ad sl S H' ∧ Rep C (Wr U ad sl S) (lc ad) S.length H' d x) ∧ (ds[i]? = none → J.stop i H)
def tI (C : Cf) (m : M Its) : TI := fun σ H R => ∃ U ad sl S its sl' S', Sim C U ad sl S σ H ∧ m sl S = some (its, sl', S') ∧
  ∀ ad' H' J, Sim C U ad' sl' S' σ H' → Nx U ad sl S H ad' sl' S' H' → JOK C (Wr U ad' sl' S') (lc ad') S'.length H' its.ds (gdOk its.gd) J → R J H'
def EI (X : Cx) (tg it : Expr) (m : M Its) : Prop := PI X tg it (tI (cf X) m)
open Classical in
noncomputable def forGo (gd : Option (Nat × Ob)) (g : MG) (b : MS) : List D → MS
  | [] => fun sl S => if gdOk gd S then some (.nx, sl, S) else none
  | d :: ds => fun sl S => if gdOk gd S then (match g d sl S with
    | some (sl1, S1) => match b sl1 S1 with
      | some (.nx, sl2, S2) => forGo gd g b ds sl2 S2
      | some (.ct, sl2, S2) => forGo gd g b ds sl2 S2
      | some (.bk, sl2, S2) => some (.nx, sl2, S2)
      | some (.rt d, sl2, S2) => some (.rt d, sl2, S2)
      | none => none
    | none => none) else none
noncomputable def sFor (m : M Its) (g : MG) (b : MS) : MS := fun sl S => match m sl S with
  | some (its, sl', S') => forGo its.gd g b its.ds sl' S'
  | none => none
section
variable {X : Cx} {tg it : Expr} {body : List Stmt} {m : M Its} {g : MG} {b : MS} {pos : Pos} {us : List Nat}
theorem drop_at {α : Type} {l r : List α} {i : Nat} {d : α} (h : l.drop i = d :: r) : l[i]? = some d ∧ l.drop (i + 1) = r ∧ i < l.length := by
  have hl : i < l.length := by
    have := congrArg List.length h
    rw [List.length_drop, List.length_cons] at this
    omega
  rw [List.drop_eq_getElem_cons hl] at h
  injection h with h1 h2
  exact ⟨by rw [List.getElem?_eq_getElem hl, h1], h2, hl⟩
theorem es_for (hp : PassesOwn (model X.prog X.w) X.A X.env X.xe) (hc : X.calm = true) (hi : EI X tg it m) (hg : EG X tg us g) (hb : ESs X body b)
    (hs : ∀ x, foldedSetIterable it X.env x = pure x := by intro _; rfl) : ES X (.For tg it body [] pos) (sFor m g b) := ps_imp (ps_for hp hc hi hg hb hs) fun D σ H q => by
  obtain ⟨U, ad, sl, S, fl, sl', S', s, e, k⟩ := q
  unfold sFor at e
  split at e
  · rename_i its sl0 S0 e0
    refine ⟨U, ad, sl, S, its, sl0, S0, s, e0, fun ad0 H0 J s0 n0 jo => ?_⟩
    refine ⟨fun i m σ1 H1 => m = its.ds.length - i ∧ i ≤ its.ds.length ∧ ∃ ad1 sl1 S1, Sim (cf X) U ad1 sl1 S1 σ1 H1 ∧ Nx U ad0 sl0 S0 H0 ad1 sl1 S1 H1 ∧ forGo its.gd g b (its.ds.drop i) sl1 S1 = some (fl, sl', S'), ⟨its.ds.length, by simp, Nat.zero_le _, ad0, sl0, S0, s0, Nx.refl, by simpa using e⟩, ?_⟩
    rintro i m σ1 H1 ⟨rfl, hi, ad1, sl1, S1, s1, n1, e1⟩
    cases q : its.ds.drop i with
    | nil =>
      rw [q] at e1
      simp only [forGo] at e1
      split at e1
      · rename_i hgd
        cases e1
        have hnone : its.ds[i]? = none := by
          rw [List.getElem?_eq_none_iff]
          exact List.drop_eq_nil_iff.mp q
        exact .inl ⟨(jo U ad1 _ _ σ1 H1 s1 n1.ext hgd i).2 hnone, k ad1 H1 σ1 s1 (n0.trans n1)⟩
      · cases e1
    | cons d rest =>
      obtain ⟨hd, hrest, hlt⟩ := drop_at q
      rw [q] at e1
      simp only [forGo] at e1
      split at e1
      · rename_i hgd
        obtain ⟨hgo, hy⟩ := (jo U ad1 _ _ σ1 H1 s1 n1.ext hgd i).1 d hd
        refine .inr ⟨hgo, fun σ3 H3 => ∃ ad3 sl3 S3, Sim (cf X) U ad3 sl3 S3 σ3 H3 ∧ Nx U ad0 sl0 S0 H0 ad3 sl3 S3 H3 ∧ forGo its.gd g b rest sl3 S3 = some (fl, sl', S'),
          fun σ3 H3 ⟨ad3, sl3, S3, s3, n3, e3⟩ => ⟨its.ds.length - (i + 1), by omega, rfl, hlt, ad3, sl3, S3, s3, n3, by rw [hrest]; exact e3⟩, fun x H2 y => ?_⟩
        obtain ⟨s2, n2, r2⟩ := hy x H2 y
        split at e1
        · rename_i sl3 S3 e3
          refine ⟨U, ad1, sl1, S1, d, sl3, S3, s2, r2, e3, fun ad3 H3 σ3 s3 n3 _ => ?_⟩
          have n13 := (n1.trans n2).trans n3
          split at e1
          · rename_i sl4 S4 e4
            exact ⟨U, ad3, sl3, S3, .nx, sl4, S4, s3, e4, fun ad4 H4 σ4 s4 n4 => ⟨ad4, sl4, S4, s4, n13.trans n4, e1⟩⟩
          · rename_i sl4 S4 e4
            exact ⟨U, ad3, sl3, S3, .ct, sl4, S4, s3, e4, fun ad4 H4 σ4 s4 n4 => ⟨ad4, sl4, S4, s4, n13.trans n4, e1⟩⟩
          · rename_i sl4 S4 e4
            cases e1
            exact ⟨U, ad3, sl3, S3, .bk, _, _, s3, e4, fun ad4 H4 σ4 s4 n4 => k ad4 H4 σ4 s4 (n0.trans (n13.trans n4))⟩
          · rename_i d4 sl4 S4 e4
            cases e1
            exact ⟨U, ad3, sl3, S3, .rt d4, _, _, s3, e4, fun ad4 H4 σ4 s4 n4 => k ad4 H4 σ4 s4 (n0.trans (n13.trans n4))⟩
          · cases e1
        · cases e1
      · cases e1
  · cases e
end

/-! ### sources -/
section
variable {X : Cx} {tg e it : Expr} {pos : Pos}
theorem pi_imp {t t' : TI} (h : PI X tg it t) (k : ∀ σ H Q, t' σ H Q → t σ H Q) : PI X tg it t' := ⟨fun pins s σ H Q I q => h.run pins s σ H Q I (k σ H Q q)⟩
theorem pi_or {t t' : TI} (h : PI X tg it t) (h' : PI X tg it t') : PI X tg it (fun σ H R => t σ H R ∨ t' σ H R) := ⟨fun pins s σ H Q I q => q.elim (h.run pins s σ H Q I) (h'.run pins s σ H Q I)⟩
/-- a list, frozen or not, as it is looked at -/
inductive LsAt (C : Cf) (W : Addr → Prop) (al : Nat → Addr) (N : Nat) (S : Sto) (H : Hp) : List D → Option (Nat × Ob) → Addr → Prop
  | fz {a : Addr} {ds : List D} {vs : List V} : ¬ W a → Rd H a (.lst vs) → Reps C W al N H ds vs → LsAt C W al N S H ds none a
  | kf {a : Addr} {ds : List D} {vs : List V} : KLst C.K a vs → Reps C W al N H ds vs → LsAt C W al N S H ds none a
  | sto {n : Nat} {ds : List D} : n < N → S[n]? = some (.lst ds) → LsAt C W al N S H ds (some (n, .lst ds)) (al n)
theorem LsAt.later {C : Cf} {W : Addr → Prop} {al : Nat → Addr} {N : Nat} {S0 : Sto} {H0 : Hp} {ds : List D} {gd : Option (Nat × Ob)} {a : Addr} (h : LsAt C W al N S0 H0 ds gd a) {ad : Cell → Addr} {sl : Sl} {S : Sto} {σ : L2.St} {H : Hp}
    (s : Sim C U ad sl S σ H) (e : Ext W al N H0 (Wr U ad sl S) (lc ad) S.length H) (g : gdOk gd S) : ∃ vs, SqL C.K H a vs ∧ Reps C (Wr U ad sl S) (lc ad) S.length H ds vs := by
  cases h with
  | fz w h1 r => exact ⟨_, .inl (e.rd w h1).2, r.mono e⟩
  | kf h1 r => exact ⟨_, h1.sq, r.mono e⟩
  | @sto n ds h1 h2 =>
    obtain ⟨ho, q1, _, q3⟩ := s.cel (.inl n) _ g
    cases q3 with
    | lst r => exact ⟨_, .inl (.inl (by rw [← e.al n h1]; exact q1)), r⟩
inductive TpAt (C : Cf) (W : Addr → Prop) (al : Nat → Addr) (N : Nat) (H : Hp) : List D → Addr → Prop
  | fz {a : Addr} {ds : List D} {vs : List V} : ¬ W a → Rd H a (.tup vs) → Reps C W al N H ds vs → TpAt C W al N H ds a
  | kf {a : Addr} {ds : List D} {vs : List V} : KTup C.K a vs → Reps C W al N H ds vs → TpAt C W al N H ds a
theorem TpAt.later {C : Cf} {W W' : Addr → Prop} {al al' : Nat → Addr} {N N' : Nat} {H0 H : Hp} {ds : List D} {a : Addr} (h : TpAt C W al N H0 ds a) (e : Ext W al N H0 W' al' N' H) : ∃ vs, SqT C.K H a vs ∧ Reps C W' al' N' H ds vs := by
  cases h with
  | fz w h1 r => exact ⟨_, .inl (e.rd w h1).2, r.mono e⟩
  | kf h1 r => exact ⟨_, h1.sq, r.mono e⟩
theorem SqL_inj {X : Cx} {H : Hp} {a : Addr} {xs ys : List V} {pins : List (Addr × Obj)} {σ : L2.St} {s : Shared} (I : Inv X pins σ H s) (h : SqL X.K H a xs) (h' : SqL X.K H a ys) : xs = ys := I.list_inj h h'
/-- the view of a list value -/
def lsOf (S : Sto) : D → Option (List D × Option (Nat × Ob))
  | .lst ds => some (ds, none)
  | .loc n => match S[n]? with
    | some (.lst ds) => some (ds, some (n, .lst ds))
    | _ => none
  | _ => none
theorem ls_at {C : Cf} {W : Addr → Prop} {al : Nat → Addr} {S : Sto} {H : Hp} {d : D} {v : V} {ds : List D} {gd : Option (Nat × Ob)} (r : Rep C W al S.length H d v) (h : lsOf S d = some (ds, gd)) : ∃ a, v = .ref a ∧ LsAt C W al S.length S H ds gd a := by
  cases r with
  | lst w h1 r => cases h; cases r with | lst r => exact ⟨_, rfl, .fz w h1 r⟩
  | klst h1 r => cases h; exact ⟨_, rfl, .kf h1 r⟩
  | @loc n hn =>
    simp only [lsOf] at h
    split at h
    · rename_i ds' e
      cases h
      exact ⟨_, rfl, .sto hn e⟩
    · cases h
  | _ => cases h
theorem LsAt.gd {C : Cf} {W : Addr → Prop} {al : Nat → Addr} {N : Nat} {S : Sto} {H : Hp} {ds : List D} {gd : Option (Nat × Ob)} {a : Addr} (h : LsAt C W al N S H ds gd a) : gdOk gd S := by
  cases h with
  | fz => trivial
  | kf => trivial
  | sto h1 h2 => exact h2
theorem tp_at {C : Cf} {W : Addr → Prop} {al : Nat → Addr} {N : Nat} {H : Hp} {ds : List D} {v : V} (r : Rep C W al N H (.tup ds) v) : ∃ a, v = .ref a ∧ TpAt C W al N H ds a := by
  cases r with
  | tup w h1 r => exact ⟨_, rfl, .fz w h1.rd r⟩
  | ktup h1 r => exact ⟨_, rfl, .kf h1 r⟩
/-- a value that is walked: list, tuple, text -/
def iV (m : M D) : M Its := mBind m fun d => fun sl S => match d with
  | .tup ds => some (⟨ds, none⟩, sl, S)
  | .str x => some (⟨x.cps.toList.map fun c => .str ⟨#[c]⟩, none⟩, sl, S)
  | d => (lsOf S d).map fun p => (⟨p.1, p.2⟩, sl, S)
theorem jok_list {X : Cx} {W : Addr → Prop} {al : Nat → Addr} {N : Nat} {S0 : Sto} {H0 : Hp} {ds : List D} {gd : Option (Nat × Ob)} {a : Addr} (h : LsAt (cf X) W al N S0 H0 ds gd a) : JOK (cf X) W al N H0 ds (gdOk gd) (Itl X.K a) := by
  intro U ad sl S σ H s e g i
  obtain ⟨vs, q, r⟩ := h.later s e g
  refine ⟨fun d hd => ?_, fun hn => ⟨vs, q, by rw [← r.length]; exact List.getElem?_eq_none_iff.mp hn⟩⟩
  obtain ⟨v, hv, rv⟩ := r.get hd
  refine ⟨⟨vs, v, q, hv⟩, fun x H' y => ?_⟩
  obtain ⟨rfl, y⟩ := y
  have := y vs q
  rw [hv] at this; cases this
  exact ⟨s, Nx.refl, rv⟩
theorem jok_tup {X : Cx} {W : Addr → Prop} {al : Nat → Addr} {N : Nat} {H0 : Hp} {ds : List D} {gd : Sto → Prop} {a : Addr} (h : TpAt (cf X) W al N H0 ds a) : JOK (cf X) W al N H0 ds gd (Itt X.K a) := by
  intro U ad sl S σ H s e g i
  obtain ⟨vs, q, r⟩ := h.later e
  refine ⟨fun d hd => ?_, fun hn => ⟨vs, q, by rw [← r.length]; exact List.getElem?_eq_none_iff.mp hn⟩⟩
  obtain ⟨v, hv, rv⟩ := r.get hd
  refine ⟨⟨vs, v, q, hv⟩, fun x H' y => ?_⟩
  obtain ⟨rfl, y⟩ := y
  have := y vs q
  rw [hv] at this; cases this
  exact ⟨s, Nx.refl, rv⟩
theorem jok_str {X : Cx} {W : Addr → Prop} {al : Nat → Addr} {N : Nat} {H0 : Hp} {x : Str} {gd : Sto → Prop} : JOK (cf X) W al N H0 (x.cps.toList.map fun c => .str ⟨#[c]⟩) gd (L2.Its x) := by
  intro U ad sl S σ H s e g i
  refine ⟨fun d hd => ?_, fun hn => ?_⟩
  · rw [List.getElem?_map] at hd
    cases hc : x.cps.toList[i]? with
    | none => rw [hc] at hd; cases hd
    | some c =>
      rw [hc] at hd; cases hd
      have hc2 : x.cps[i]? = some c := by rw [← Array.getElem?_toList]; exact hc
      refine ⟨(Array.getElem?_eq_some_iff.mp hc2).1, fun y H' z => ?_⟩
      obtain ⟨rfl, c', h1, rfl⟩ := z
      rw [hc2] at h1; cases h1
      exact ⟨s, Nx.refl, .str _⟩
  · rw [List.getElem?_map, Option.map_eq_none_iff, List.getElem?_eq_none_iff, Array.length_toList] at hn
    exact hn
theorem tI_bind {α β : Type} {R : Rl α β} {C : Cf} {m : M α} {f : α → M Its} {σ : L2.St} {H : Hp} {Q : It → Hp → Prop} {Z : β → Hp → Prop} (h : tI C (mBind m f) σ H Q)
    (k : ∀ U ad sl S a c sl' S' H1 b, Sim C U ad sl S σ H1 → R C (Wr U ad sl S) (lc ad) S.length H1 σ a b → f a sl S = some (c, sl', S') →
      (∀ ad' H' J, Sim C U ad' sl' S' σ H' → Nx U ad sl S H1 ad' sl' S' H' → JOK C (Wr U ad' sl' S') (lc ad') S'.length H' c.ds (gdOk c.gd) J → Q J H') → Z b H1) : tX R C m σ H Z := by
  obtain ⟨U, ad, sl, S, c, sl', S', s, e, q⟩ := h
  obtain ⟨a, sl1, S1, e1, e2⟩ := mBind_some e
  refine ⟨U, ad, sl, S, a, sl1, S1, s, e1, fun ad1 H1 b s1 n1 r1 => ?_⟩
  exact k U ad1 sl1 S1 a c sl' S' H1 b s1 r1 e2 fun ad2 H2 z s2 n2 r2 => q ad2 H2 z s2 (n1.trans n2) r2
end
section
variable {X : Cx} {tg e it : Expr} {pos : Pos} {m : M D}
theorem ei_v (h : EE X e m) : EI X tg e (iV m) := pi_imp (pi_or (pi_list h) (pi_or (pi_tup h) (pi_str h))) fun σ H R q => by
  obtain ⟨U, ad, sl, S, its, sl', S', s, e, k⟩ := q
  obtain ⟨d, sl1, S1, e1, e2⟩ := mBind_some e
  have lst : ∀ ds gd, lsOf S1 d = some (ds, gd) → its = ⟨ds, gd⟩ → sl1 = sl' → S1 = S' → iList X.K (tX rD (cf X) m) σ H R := fun ds gd hp h1 h2 h3 => by
    subst h1 h2 h3
    refine ⟨U, ad, sl, S, d, sl1, S1, s, e1, fun ad1 H1 v s1 n1 r1 => ?_⟩
    obtain ⟨a, ea, la⟩ := ls_at r1 hp
    obtain ⟨vs, q, _⟩ := la.later s1 Ext.refl la.gd
    exact ⟨a, ea, ⟨vs, q⟩, k ad1 H1 _ s1 n1 (jok_list la)⟩
  cases d with
  | tup ds =>
    cases e2
    refine .inr (.inl ⟨U, ad, sl, S, .tup ds, _, _, s, e1, fun ad1 H1 v s1 n1 r1 => ?_⟩)
    obtain ⟨a, ea, ta⟩ := tp_at r1
    obtain ⟨vs, q, _⟩ := ta.later Ext.refl
    exact ⟨a, ea, ⟨vs, q⟩, k ad1 H1 _ s1 n1 (jok_tup ta)⟩
  | str x =>
    cases e2
    refine .inr (.inr ⟨U, ad, sl, S, .str x, _, _, s, e1, fun ad1 H1 v s1 n1 r1 => ?_⟩)
    cases r1
    exact ⟨x, rfl, k ad1 H1 _ s1 n1 jok_str⟩
  | lst ds => cases e2; exact .inl (lst ds none rfl rfl rfl rfl)
  | loc n =>
    dsimp only at e2
    cases hl : lsOf S1 (.loc n) with
    | none => rw [hl] at e2; cases e2
    | some p =>
      rw [hl] at e2
      cases e2
      exact .inl (lst p.1 p.2 hl rfl rfl rfl)
  | _ => cases e2
/-! ranges -/
def rng (lo : Int) (n : Nat) : List D := (List.range n).map fun i => .int (lo + (i : Nat))
def rngC (lo c : Int) (n : Nat) : List D := (List.range n).map fun i => .int (lo + (i : Nat) * c)
def bd (j : Int) : Bool := decide (-(2 ^ 62) ≤ j) && decide (j < 2 ^ 62)
theorem bd_of {j : Int} (h : bd j = true) : -(2 ^ 62) ≤ j ∧ j < 2 ^ 62 := by simpa [bd] using h
def iR1 (m : M (List D)) : M Its := mBind m fun ds => fun sl S => match ds with
  | [.int j] => if bd j = true then some (⟨rng 0 j.toNat, none⟩, sl, S) else none
  | _ => none
def iR2 (m : M (List D)) : M Its := mBind m fun ds => fun sl S => match ds with
  | [.int i, .int j] => if (bd i && bd j) = true then some (⟨rng i (j - i).toNat, none⟩, sl, S) else none
  | _ => none
def iR3 (m : M (List D)) : M Its := mBind m fun ds => fun sl S => match ds with
  | [.int i, .int j, .int c] => if (decide (c ≠ 0) && decide (c.natAbs < 1073741824) && Builtin.Range.small i j c) = true then some (⟨rngC i c (Builtin.Range.rangeSize i j c).toNat, none⟩, sl, S) else none
  | _ => none
theorem reps1 {C : Cf} {W : Addr → Prop} {al : Nat → Addr} {N : Nat} {H : Hp} {i : Int} {vs : List V} (r : Reps C W al N H [.int i] vs) : vs = [.int i] := by
  cases r with
  | cons r rs => cases r; cases rs; rfl
theorem reps2 {C : Cf} {W : Addr → Prop} {al : Nat → Addr} {N : Nat} {H : Hp} {i j : Int} {vs : List V} (r : Reps C W al N H [.int i, .int j] vs) : vs = [.int i, .int j] := by
  cases r with
  | cons r rs => cases r; rw [reps1 rs]
theorem reps3 {C : Cf} {W : Addr → Prop} {al : Nat → Addr} {N : Nat} {H : Hp} {i j k : Int} {vs : List V} (r : Reps C W al N H [.int i, .int j, .int k] vs) : vs = [.int i, .int j, .int k] := by
  cases r with
  | cons r rs => cases r; rw [reps2 rs]
theorem jok_rng {W : Addr → Prop} {al : Nat → Addr} {N : Nat} {H0 : Hp} {lo : Int} {n : Nat} {gd : Sto → Prop} : JOK (cf X) W al N H0 (rng lo n) gd (Itr lo n) := by
  intro U ad sl S σ H s e g i
  refine ⟨fun d hd => ?_, fun hn => ?_⟩
  · unfold rng at hd
    rw [List.getElem?_map] at hd
    by_cases hi : i < n
    · rw [List.getElem?_range hi] at hd
      cases hd
      refine ⟨hi, fun x H' y => ?_⟩
      obtain ⟨rfl, rfl⟩ := y
      exact ⟨s, Nx.refl, .int _⟩
    · rw [List.getElem?_eq_none (by simpa using hi)] at hd; cases hd
  · simp [rng] at hn
    exact hn
theorem jok_rngC {W : Addr → Prop} {al : Nat → Addr} {N : Nat} {H0 : Hp} {lo c : Int} {n : Nat} {gd : Sto → Prop} : JOK (cf X) W al N H0 (rngC lo c n) gd (Itc lo c n) := by
  intro U ad sl S σ H s e g i
  refine ⟨fun d hd => ?_, fun hn => ?_⟩
  · unfold rngC at hd
    rw [List.getElem?_map] at hd
    by_cases hi : i < n
    · rw [List.getElem?_range hi] at hd
      cases hd
      refine ⟨hi, fun x H' y => ?_⟩
      obtain ⟨rfl, rfl⟩ := y
      exact ⟨s, Nx.refl, .int _⟩
    · rw [List.getElem?_eq_none (by simpa using hi)] at hd; cases hd
  · simp [rngC] at hn
    exact hn
theorem rangeSize_nn (i j c : Int) (hc : c ≠ 0) : 0 ≤ Builtin.Range.rangeSize i j c := by
  unfold Builtin.Range.rangeSize
  split
  · split
    · have : 0 ≤ (j - i - 1) / c := Int.ediv_nonneg (by omega) (by omega)
      omega
    · exact Int.le_refl _
  · split
    · have : 0 ≤ (i - j - 1) / (-c) := Int.ediv_nonneg (by omega) (by omega)
      omega
    · exact Int.le_refl _
variable {a b c : Expr} {p : Pos} {ma : M (List D)}
theorem ei_r1 (hg : Gl X "range") (hm : X.mg "range" = none) (ha : EA X [a] ma) (hs : starEach [a] X.env = [(false, eval a X.env)] := by rfl) : EI X tg (.Call (.Name "range" p) [a] [] pos) (iR1 ma) := pi_imp (pi_range1 hg hm ha hs) fun σ H R q => by
  obtain ⟨U, ad, sl, S, its, sl', S', s, e, k⟩ := q
  obtain ⟨ds, sl1, S1, e1, e2⟩ := mBind_some e
  refine ⟨U, ad, sl, S, ds, sl1, S1, s, e1, fun ad1 H1 vs s1 n1 r1 => ?_⟩
  split at e2
  · rename_i j
    split at e2
    · rename_i hb
      cases e2
      obtain ⟨h1, h2⟩ := bd_of hb
      exact ⟨j, reps1 r1, h1, h2, k ad1 H1 _ s1 n1 jok_rng⟩
    · cases e2
  · cases e2
theorem ei_r2 (hg : Gl X "range") (hm : X.mg "range" = none) (ha : EA X [a, b] ma) (hs : starEach [a, b] X.env = [(false, eval a X.env), (false, eval b X.env)] := by rfl) (hs2 : starEach [b] X.env = [(false, eval b X.env)] := by rfl) : EI X tg (.Call (.Name "range" p) [a, b] [] pos) (iR2 ma) := pi_imp (pi_range2 hg hm ha hs hs2) fun σ H R q => by
  obtain ⟨U, ad, sl, S, its, sl', S', s, e, k⟩ := q
  obtain ⟨ds, sl1, S1, e1, e2⟩ := mBind_some e
  refine ⟨U, ad, sl, S, ds, sl1, S1, s, e1, fun ad1 H1 vs s1 n1 r1 => ?_⟩
  split at e2
  · rename_i i j
    split at e2
    · rename_i hb
      rw [Bool.and_eq_true] at hb
      cases e2
      obtain ⟨h1, h2⟩ := bd_of hb.1
      obtain ⟨h3, h4⟩ := bd_of hb.2
      exact ⟨i, j, reps2 r1, ⟨h1, h2, h3, h4⟩, k ad1 H1 _ s1 n1 jok_rng⟩
    · cases e2
  · cases e2
theorem ei_r3 (hg : Gl X "range") (hm : X.mg "range" = none) (ha : EA X [a, b, c] ma) (hs : starEach [a, b, c] X.env = (false, eval a X.env) :: starEach [b, c] X.env := by rfl) (hpl : (backTo pos (starEach [b, c] X.env)).any (·.1) = false := by rfl) : EI X tg (.Call (.Name "range" p) [a, b, c] [] pos) (iR3 ma) := pi_imp (pi_range3 hg hm ha hs hpl) fun σ H R q => by
  obtain ⟨U, ad, sl, S, its, sl', S', s, e, k⟩ := q
  obtain ⟨ds, sl1, S1, e1, e2⟩ := mBind_some e
  refine ⟨U, ad, sl, S, ds, sl1, S1, s, e1, fun ad1 H1 vs s1 n1 r1 => ?_⟩
  split at e2
  · rename_i i j c
    split at e2
    · rename_i hb
      simp only [Bool.and_eq_true, decide_eq_true_eq] at hb
      cases e2
      exact ⟨i, j, c, _, reps3 r1, ⟨hb.1.1, hb.1.2, hb.2, (Int.toNat_of_nonneg (rangeSize_nn i j c hb.1.1)).symm⟩, k ad1 H1 _ s1 n1 jok_rngC⟩
    · cases e2
  · cases e2
/-! enumerate, zip -/
def iEn (m : M D) : M Its := mBind m fun d => fun sl S => (lsOf S d).map fun p => (⟨(List.range p.1.length).zipWith (fun i d => .pr [.int (i : Nat), d]) p.1, p.2⟩, sl, S)
theorem tup2 {C : Cf} {U : Addr → Prop} {ad : Cell → Addr} {sl : Sl} {S : Sto} {σ : L2.St} {H : Hp} {d e : D} {v w : V} {T : Addr} (s : Sim C U ad sl S σ H) (r : Rep C (Wr U ad sl S) (lc ad) S.length H d v) (q : Rep C (Wr U ad sl S) (lc ad) S.length H e w) (hT : H T = none) :
    Sim C U ad sl S σ (upd H T (.tup [v, w])) ∧ Nx U ad sl S H ad sl S (upd H T (.tup [v, w])) ∧ Rep C (Wr U ad sl S) (lc ad) S.length (upd H T (.tup [v, w])) (.pr [d, e]) (.ref T) := by
  obtain ⟨s', n⟩ := s.laid (o := .tup [v, w]) hT
  exact ⟨s', n, .pr (s.fresh hT) (.inl upd_same) (Reps.mono n.ext (.cons r (.cons q .nil)))⟩
theorem jok_enum {W : Addr → Prop} {al : Nat → Addr} {N : Nat} {S0 : Sto} {H0 : Hp} {ds : List D} {gd : Option (Nat × Ob)} {a : Addr} (h : LsAt (cf X) W al N S0 H0 ds gd a) : JOK (cf X) W al N H0 ((List.range ds.length).zipWith (fun i d => .pr [.int (i : Nat), d]) ds) (gdOk gd) (Ite X.K a) := by
  intro U ad sl S σ H s e g i
  obtain ⟨vs, q, r⟩ := h.later s e g
  refine ⟨fun d hd => ?_, fun hn => ⟨vs, q, ?_⟩⟩
  · rw [List.getElem?_zipWith] at hd
    split at hd
    · rename_i j d0 hj hd0
      cases hd
      have hj' : j = i := by
        rw [List.getElem?_range (by have := (List.getElem?_eq_some_iff.mp hj).1; simpa using this)] at hj
        exact (Option.some.inj hj).symm
      subst hj'
      obtain ⟨v, hv, rv⟩ := r.get hd0
      refine ⟨⟨vs, v, q, hv⟩, fun x H' y => ?_⟩
      obtain ⟨T, x0, rfl, hT, rfl, y⟩ := y
      have := y vs q
      rw [hv] at this; cases this
      exact tup2 s (.int _) rv hT
    · cases hd
  · rw [List.getElem?_eq_none_iff, List.length_zipWith, List.length_range] at hn
    rw [← r.length]; omega
theorem ei_en {el : Expr} {elts : List Expr} {kk : Nat} {tpos : Pos} (hg : Gl X "enumerate") (hm : X.mg "enumerate" = none) (ha : EE X el m) (hs : starEach [el] X.env = [(false, eval el X.env)] := by rfl) :
    EI X (.Tuple elts kk tpos) (.Call (.Name "enumerate" p) [el] [] pos) (iEn m) := pi_imp (pi_enum hg hm (pa_cons ha pa_nil hs) hs) fun σ H R q => by
  obtain ⟨U, ad, sl, S, its, sl', S', s, e, k⟩ := q
  obtain ⟨d, sl1, S1, e1, e2⟩ := mBind_some e
  cases hl : lsOf S1 d with
  | none => rw [hl] at e2; cases e2
  | some p =>
    rw [hl] at e2
    cases e2
    refine ⟨U, ad, sl, S, d, _, _, s, e1, fun ad1 H1 v s1 n1 r1 => ?_⟩
    obtain ⟨a, ea, la⟩ := ls_at r1 (show lsOf _ d = some (p.1, p.2) from hl)
    obtain ⟨vs, q, _⟩ := la.later s1 Ext.refl la.gd
    exact ⟨a, vs, by rw [ea], q, k ad1 H1 _ s1 n1 (jok_enum la)⟩
/-- zip of two lists, or of two tuples (frozen) -/
def iZp (m n : M D) : M Its := mBind m fun d => mBind n fun e => fun sl S => match d, e with
  | .lst ds, .lst es => some (⟨ds.zipWith (fun d e => .pr [d, e]) es, none⟩, sl, S)
  | .tup ds, .tup es => some (⟨ds.zipWith (fun d e => .pr [d, e]) es, none⟩, sl, S)
  | _, _ => none
theorem jok_zipL {W : Addr → Prop} {al : Nat → Addr} {N : Nat} {S0 : Sto} {H0 : Hp} {ds es : List D} {gd : Sto → Prop} {a b : Addr} (h : LsAt (cf X) W al N S0 H0 ds none a) (h' : LsAt (cf X) W al N S0 H0 es none b) : JOK (cf X) W al N H0 (ds.zipWith (fun d e => .pr [d, e]) es) gd (Itz X.K a b) := by
  intro U ad sl S σ H s e g i
  obtain ⟨vs, q, r⟩ := h.later s e trivial
  obtain ⟨ws, q', r'⟩ := h'.later s e trivial
  refine ⟨fun d hd => ?_, fun hn => ⟨vs, ws, q, q', ?_⟩⟩
  · rw [List.getElem?_zipWith] at hd
    split at hd
    · rename_i d1 d2 h1 h2
      cases hd
      obtain ⟨v, hv, rv⟩ := r.get h1
      obtain ⟨w, hw, rw'⟩ := r'.get h2
      refine ⟨⟨vs, ws, v, w, q, q', hv, hw⟩, fun x H' y => ?_⟩
      obtain ⟨T, x0, y0, rfl, hT, rfl, y1, y2⟩ := y
      have z1 := y1 vs q
      have z2 := y2 ws q'
      rw [hv] at z1; cases z1
      rw [hw] at z2; cases z2
      exact tup2 s rv rw' hT
    · cases hd
  · rw [List.getElem?_eq_none_iff, List.length_zipWith] at hn
    rw [← r.length, ← r'.length]; omega
theorem jok_zipT {W : Addr → Prop} {al : Nat → Addr} {N : Nat} {H0 : Hp} {ds es : List D} {gd : Sto → Prop} {a b : Addr} (h : TpAt (cf X) W al N H0 ds a) (h' : TpAt (cf X) W al N H0 es b) : JOK (cf X) W al N H0 (ds.zipWith (fun d e => .pr [d, e]) es) gd (RZ.ItzT X.K a b) := by
  intro U ad sl S σ H s e g i
  obtain ⟨vs, q, r⟩ := h.later e
  obtain ⟨ws, q', r'⟩ := h'.later e
  refine ⟨fun d hd => ?_, fun hn => ⟨vs, ws, q, q', ?_⟩⟩
  · rw [List.getElem?_zipWith] at hd
    split at hd
    · rename_i d1 d2 h1 h2
      cases hd
      obtain ⟨v, hv, rv⟩ := r.get h1
      obtain ⟨w, hw, rw'⟩ := r'.get h2
      refine ⟨⟨vs, ws, v, w, q, q', hv, hw⟩, fun x H' y => ?_⟩
      obtain ⟨T, x0, y0, rfl, hT, rfl, y1, y2⟩ := y
      have z1 := y1 vs q
      have z2 := y2 ws q'
      rw [hv] at z1; cases z1
      rw [hw] at z2; cases z2
      exact tup2 s rv rw' hT
    · cases hd
  · rw [List.getElem?_eq_none_iff, List.length_zipWith] at hn
    rw [← r.length, ← r'.length]; omega
theorem ei_zp {a b : Expr} {n : M D} {elts : List Expr} {kk : Nat} {tpos : Pos} (hg : Gl X "zip") (hm : X.mg "zip" = none) (ha : EE X a m) (hb : EE X b n)
    (hs : starEach [a, b] X.env = (false, eval a X.env) :: starEach [b] X.env := by rfl) (hs2 : starEach [b] X.env = [(false, eval b X.env)] := by rfl) (hpl : (backTo pos (starEach [b] X.env)).any (·.1) = false := by rfl) :
    EI X (.Tuple elts kk tpos) (.Call (.Name "zip" p) [a, b] [] pos) (iZp m n) := pi_imp (RZ.pi_zipA hg hm (pa_cons ha (pa_cons hb pa_nil hs2) hs) hs hpl) fun σ H R q => by
  refine tI_bind (R := rD) q fun U ad sl S d its sl' S' H1 v s r e k => ?_
  obtain ⟨d2, sl1, S1, e1, e2⟩ := mBind_some e
  refine ⟨U, ad, sl, S, d2, sl1, S1, s, e1, fun ad1 H2 w s1 n1 r1 => ?_⟩
  have r0 := Rep.mono n1.ext r
  cases d <;> cases d2 <;> cases e2
  · obtain ⟨a, ea, ta⟩ := tp_at r0
    obtain ⟨b, eb, tb⟩ := tp_at r1
    obtain ⟨vs, q, _⟩ := ta.later Ext.refl
    obtain ⟨ws, q', _⟩ := tb.later Ext.refl
    exact ⟨a, b, vs, ws, by rw [ea, eb], .inr ⟨q, q', k ad1 H2 _ s1 n1 (jok_zipT ta tb)⟩⟩
  · obtain ⟨a, ea, la⟩ := ls_at r0 rfl
    obtain ⟨b, eb, lb⟩ := ls_at r1 rfl
    obtain ⟨vs, q, _⟩ := la.later s1 Ext.refl trivial
    obtain ⟨ws, q', _⟩ := lb.later s1 Ext.refl trivial
    exact ⟨a, b, vs, ws, by rw [ea, eb], .inl ⟨q, q', k ad1 H2 _ s1 n1 (jok_zipL la lb)⟩⟩
end
end PS

namespace PS
open PySem PySem.Spec PyProof.Rows L2

/-! ### comprehensions -/
def wipeS (sl : Sl) : List Nat → Sl
  | [] => sl
  | v :: vs => (wipeS sl vs).set v none
section
variable {C : Cf} {U : Addr → Prop} {ad : Cell → Addr} {sl : Sl} {S : Sto} {σ σ' : L2.St} {H : Hp}
theorem Sim.setNone (s : Sim C U ad sl S σ H) (i : Nat) : Sim C U ad (sl.set i none) S (σ.set i none) H ∧ Nx U ad sl S H ad (sl.set i none) S H := by
  by_cases hi : i < sl.length
  · have hob : ∀ c ob', objAt (sl.set i none) S c = some ob' → objAt sl S c = some ob' := fun c ob' q => by
      rw [objAt_non hi] at q
      split at q
      · cases q
      · exact q
    have wl : ∀ a, Wr U ad (sl.set i none) S a → Wr U ad sl S a := fun a z => z.imp (fun u => u) fun ⟨c, ob', q, e⟩ => ⟨c, ob', hob c ob' q, e⟩
    have ext : Ext (Wr U ad sl S) (lc ad) S.length H (Wr U ad (sl.set i none) S) (lc ad) S.length H := ⟨Nat.le_refl _, fun _ _ => rfl, fun a z => .inl (wl a z), fun _ _ _ q => .inl q⟩
    refine s.less hob (Nat.le_refl _) (by simpa using s.len) fun j sv q => ?_
    by_cases e : j = i
    · subst e
      rw [List.getElem?_set_self hi] at q
      cases q
    · rw [List.getElem?_set_ne (Ne.symm e)] at q
      obtain ⟨v', r1, r2⟩ := s.slt j sv q
      exact ⟨v', by rw [List.getElem?_set_ne (Ne.symm e)]; exact r1, r2.mono ext fun _ _ => rfl⟩
  · have hi' : ¬ i < σ.length := by rw [← s.len]; exact hi
    rw [List.set_eq_of_length_le (Nat.le_of_not_lt hi), List.set_eq_of_length_le (Nat.le_of_not_lt hi')]
    exact ⟨s, Nx.refl⟩
theorem Sim.wipe (s : Sim C U ad sl S σ H) : ∀ vs : List Nat, Sim C U ad (wipeS sl vs) S (L2.wipe σ vs) H ∧ Nx U ad sl S H ad (wipeS sl vs) S H
  | [] => ⟨s, Nx.refl⟩
  | v :: vs => by
    obtain ⟨s1, n1⟩ := Sim.wipe s vs
    obtain ⟨s2, n2⟩ := s1.setNone v
    exact ⟨s2, n1.trans n2⟩
theorem Sim.unwipe {vs : List Nat} (s : Sim C U ad sl S (L2.wipe σ vs) H) : Sim C U ad sl S σ H :=
  ⟨s.len.trans (wipe_length σ vs), s.cel, fun i sv q => let ⟨v, h1, h2⟩ := s.slt i sv q; ⟨v, (wipe_some h1).1, h2⟩, s.inj, s.out, s.utr⟩
theorem wipe_in {i : Nat} : ∀ {vs : List Nat}, i ∈ vs → i < σ.length → (L2.wipe σ vs)[i]? = some none
  | [], h, _ => absurd h (by simp)
  | v :: vs, h, l => by
    show ((L2.wipe σ vs).set v none)[i]? = some none
    by_cases e : v = i
    · subst e
      rw [List.getElem?_set_self (by rw [wipe_length]; exact l)]
    · rw [List.getElem?_set_ne e]
      exact wipe_in ((List.mem_cons.mp h).resolve_left fun z => e z.symm) l
theorem wipe_ch {vs us : List Nat} (h : Ch us (L2.wipe σ vs) σ') (hu : ∀ i ∈ us, i ∈ vs) : L2.wipe σ' vs = L2.wipe σ vs := by
  have hl : σ'.length = σ.length := h.1.trans (wipe_length σ vs)
  refine List.ext_getElem? fun i => ?_
  by_cases hi : i ∈ vs
  · by_cases l : i < σ.length
    · rw [wipe_in hi l, wipe_in hi (by rw [hl]; exact l)]
    · rw [List.getElem?_eq_none (by rw [wipe_length, hl]; exact Nat.le_of_not_lt l), List.getElem?_eq_none (by rw [wipe_length]; exact Nat.le_of_not_lt l)]
  · rw [wipe_out hi, wipe_out hi, h.2 i fun z => hi (hu i z), wipe_out hi]
/-- the slots that the block hid come back -/
def restS (sl0 sl : Sl) : List Nat → Sl
  | [] => sl
  | v :: vs => match sl0[v]? with
    | some (some (.val d)) => (restS sl0 sl vs).set v (some (.val d))
    | _ => restS sl0 sl vs
/-- what a frame's new object may be written -/
abbrev Ub (U : Addr → Prop) (D : Addr) : Addr → Prop := fun a => U a ∨ a = D
theorem Wr_Ub {D : Addr} {a : Addr} : Wr (Ub U D) ad sl S a ↔ Wr U ad sl S a ∨ a = D := by
  unfold Wr Ub
  constructor
  · rintro ((h | h) | h)
    · exact .inl (.inl h)
    · exact .inr h
    · exact .inl (.inr h)
  · rintro ((h | h) | h)
    · exact .inl (.inl h)
    · exact .inr h
    · exact .inl (.inr h)
/-- a new object that is built: it is laid, and nothing but its builder writes it -/
theorem Sim.lay (s : Sim C U ad sl S σ H) {D : Addr} {ho : HO} (hD : H D = none) (hm : mtb ho) : Sim C (Ub U D) ad sl S σ (upd H D ho) ∧ Ext (Wr U ad sl S) (lc ad) S.length H (Wr (Ub U D) ad sl S) (lc ad) S.length (upd H D ho) := by
  have kp : ∀ a u, H a = some u → upd H D ho a = some u := fun a u q => by rw [upd_ne (ne_of_none q hD)]; exact q
  have e : Ext (Wr U ad sl S) (lc ad) S.length H (Wr (Ub U D) ad sl S) (lc ad) S.length (upd H D ho) := ⟨Nat.le_refl _, fun _ _ => rfl, fun a z => (Wr_Ub.mp z).imp (fun h => h) fun h => by rw [h]; exact hD, fun a u _ q => .inl (kp a u q)⟩
  refine ⟨⟨s.len, fun c ob q => ?_, fun i sv q => ?_, s.inj, fun c ob q z => ?_, fun a q => ?_⟩, e⟩
  · obtain ⟨o, h1, h2, h3⟩ := s.cel c ob q
    exact ⟨o, kp _ _ h1, h2, h3.mono e⟩
  · obtain ⟨v, h1, h2⟩ := s.slt i sv q
    exact ⟨v, h1, h2.mono e fun _ _ => rfl⟩
  · rcases z with z | z
    · exact s.out c ob q z
    · obtain ⟨o, h1, _⟩ := s.cel c ob q
      rw [z, hD] at h1; cases h1
  · rcases q with q | q
    · obtain ⟨o, h1, h2⟩ := s.utr a q
      exact ⟨o, kp _ _ h1, h2⟩
    · subst q
      exact ⟨ho, upd_same, hm⟩
/-- the builder writes it -/
theorem Sim.bld {D : Addr} (s : Sim C (Ub U D) ad sl S σ H) (hU : ¬ U D) {ho : HO} (hm : mtb ho) : Sim C (Ub U D) ad sl S σ (upd H D ho) ∧ Ext (Wr (Ub U D) ad sl S) (lc ad) S.length H (Wr (Ub U D) ad sl S) (lc ad) S.length (upd H D ho) := by
  have nd : ∀ a, ¬ Wr (Ub U D) ad sl S a → a ≠ D := fun a w z => w (by rw [z]; exact Wr_Ub.mpr (.inr rfl))
  have e : Ext (Wr (Ub U D) ad sl S) (lc ad) S.length H (Wr (Ub U D) ad sl S) (lc ad) S.length (upd H D ho) := ⟨Nat.le_refl _, fun _ _ => rfl, fun a z => .inl z, fun a u w q => .inl (by rw [upd_ne (nd a w)]; exact q)⟩
  refine ⟨⟨s.len, fun c ob q => ?_, fun i sv q => ?_, s.inj, s.out, fun a q => ?_⟩, e⟩
  · obtain ⟨o, h1, h2, h3⟩ := s.cel c ob q
    exact ⟨o, by rw [upd_ne fun z => s.out c ob q (.inr z)]; exact h1, h2, h3.mono e⟩
  · obtain ⟨v, h1, h2⟩ := s.slt i sv q
    exact ⟨v, h1, h2.mono e fun _ _ => rfl⟩
  · by_cases z : a = D
    · subst z
      exact ⟨ho, upd_same, hm⟩
    · obtain ⟨o, h1, h2⟩ := s.utr a q
      exact ⟨o, by rw [upd_ne z]; exact h1, h2⟩
/-- H without what stands at D -/
def del (H : Hp) (D : Addr) : Hp := fun a => if a = D then none else H a
theorem del_same {D : Addr} : del H D D = none := if_pos rfl
theorem del_ne {D a : Addr} (h : a ≠ D) : del H D a = H a := if_neg h
theorem upd_del {D : Addr} {ho : HO} (h : H D = some ho) : upd (del H D) D ho = H := by
  funext a
  by_cases e : a = D
  · subst e; rw [upd_same, h]
  · rw [upd_ne e, del_ne e]
theorem Sim.del {D : Addr} (s : Sim C (Ub U D) ad sl S σ H) (hU : ¬ U D) : Sim C U ad sl S σ (del H D) ∧ Ext (Wr (Ub U D) ad sl S) (lc ad) S.length H (Wr U ad sl S) (lc ad) S.length (PS.del H D) := by
  have nd : ∀ a, ¬ Wr (Ub U D) ad sl S a → a ≠ D := fun a w z => w (by rw [z]; exact Wr_Ub.mpr (.inr rfl))
  have e : Ext (Wr (Ub U D) ad sl S) (lc ad) S.length H (Wr U ad sl S) (lc ad) S.length (PS.del H D) := ⟨Nat.le_refl _, fun _ _ => rfl, fun a z => .inl (Wr_Ub.mpr (.inl z)), fun a u w q => .inl (by rw [del_ne (nd a w)]; exact q)⟩
  refine ⟨⟨s.len, fun c ob q => ?_, fun i sv q => ?_, s.inj, fun c ob q z => s.out c ob q (.inl z), fun a q => ?_⟩, e⟩
  · obtain ⟨o, h1, h2, h3⟩ := s.cel c ob q
    exact ⟨o, by rw [del_ne fun z => s.out c ob q (.inr z)]; exact h1, h2, h3.mono e⟩
  · obtain ⟨v, h1, h2⟩ := s.slt i sv q
    exact ⟨v, h1, h2.mono e fun _ _ => rfl⟩
  · obtain ⟨o, h1, h2⟩ := s.utr a (.inl q)
    exact ⟨o, by rw [del_ne fun z => hU (by rw [← z]; exact q)]; exact h1, h2⟩
/-- values come back into slots that hold nothing -/
theorem Sim.rest {sl0 : Sl} : ∀ (vs : List Nat), Sim C U ad sl S σ H → (∀ v ∈ vs, ∀ d, sl0[v]? = some (some (.val d)) → ∃ x, σ[v]? = some (some x) ∧ Rep C (Wr U ad sl S) (lc ad) S.length H d x) →
    Sim C U ad (restS sl0 sl vs) S σ H ∧ Nx U ad sl S H ad (restS sl0 sl vs) S H
  | [], s, _ => ⟨s, Nx.refl⟩
  | v :: vs, s, h => by
    obtain ⟨s1, n1⟩ := Sim.rest vs s fun w hw => h w (List.mem_cons_of_mem _ hw)
    unfold restS
    split
    · rename_i d hd
      obtain ⟨x, hx, rx⟩ := h v (List.mem_cons_self ..) d hd
      have hl : v < (restS sl0 sl vs).length := by rw [s1.len]; exact (List.getElem?_eq_some_iff.mp hx).1
      obtain ⟨s2, n2⟩ := s1.setVal hl (Rep.mono n1.ext rx)
      have e : σ.set v (some x) = σ := by
        refine List.ext_getElem? fun j => ?_
        by_cases ej : v = j
        · subst ej; rw [List.getElem?_set_self (List.getElem?_eq_some_iff.mp hx).1, hx]
        · rw [List.getElem?_set_ne ej]
      rw [e] at s2
      exact ⟨s2, n1.trans n2⟩
    · exact ⟨s1, n1⟩
end

/-- [e for g in .. if t]: the new list's items -/
noncomputable def lcGo (gd : Option (Nat × Ob)) (g : MG) (t : M Bool) (e : M D) (vs : List Nat) : List D → List D → Sl → Sto → Option (List D × Sl × Sto)
  | [], acc => fun sl S => by classical exact if gdOk gd S then some (acc, sl, S) else none
  | d :: ds, acc => fun sl S => by classical exact if gdOk gd S then (match g d sl S with
    | some (sl1, S1) => match t sl1 S1 with
      | some (true, sl2, S2) => match e sl2 S2 with
        | some (y, sl3, S3) => if acc.length < sizeLine then lcGo gd g t e vs ds (acc ++ [y]) (wipeS sl3 vs) S3 else none
        | none => none
      | some (false, sl2, S2) => lcGo gd g t e vs ds acc (wipeS sl2 vs) S2
      | none => none
    | none => none) else none
noncomputable def nLc (m : M Its) (g : MG) (t : M Bool) (e : M D) (vs : List Nat) : M Ob := fun sl S => match m sl S with
  | some (its, sl1, S1) => match lcGo its.gd g t e vs its.ds [] (wipeS sl1 vs) S1 with
    | some (acc, sl2, S2) => some (.lst acc, restS sl1 sl2 vs, S2)
    | none => none
  | none => none
def tYs : M Bool := mPure true
def ETs (X : Cx) (ifs : List Expr) (m : M Bool) : Prop := PTs X ifs (tX rB (cf X) m)
section
variable {X : Cx} {tg it elt c : Expr} {ifs : List Expr} {m : M Its} {g : MG} {t : M Bool} {e : M D} {us vs : List Nat}
theorem pts_imp {t t' : TT} (h : PTs X ifs t) (k : ∀ σ H Q, t' σ H Q → t σ H Q) : PTs X ifs t' := ⟨fun pins s σ H Q I q => h.run pins s σ H Q I (k σ H Q q)⟩
theorem ets_nil : ETs X [] tYs := pts_imp pts_nil fun σ H Q q => by
  obtain ⟨U, ad, sl, S, a, sl', S', s, e, k⟩ := q
  cases e
  exact k ad H _ s Nx.refl rfl
theorem ets_one (h : ET X c t) : ETs X [c] t := pts_one h
theorem tLc_of {C : Cf} (hu : ∀ i ∈ us, i ∈ vs) {σ : L2.St} {H : Hp} {Q : VK} (h : tN C (nLc m g t e vs) σ H Q) : tLc (tI C m) (tG C us g) (tX rB C t) (tX rD C e) vs σ H Q := by
  obtain ⟨U, ad, sl, S, ob, sl', S', s, em, k⟩ := h
  unfold nLc at em
  split at em
  · rename_i its sl1 S1 e1
    split at em
    · rename_i acc0 sl2 S2 e2
      cases em
      refine ⟨U, ad, sl, S, its, sl1, S1, s, e1, fun ad1 H1 J s1 n1 jo => ?_⟩
      intro D hD
      have hUD : ¬ U D := fun z => by
        obtain ⟨ho, q, _⟩ := s1.utr D z
        rw [hD] at q; cases q
      obtain ⟨s1w, n1w⟩ := s1.wipe vs
      obtain ⟨s1d, x1d⟩ := s1w.lay (D := D) (ho := .lst []) hD True.intro
      -- the loop's state
      refine ⟨fun i mm H2 => mm = its.ds.length - i ∧ i ≤ its.ds.length ∧ ∃ ad2 slc Sc acc ys, Sim C (Ub U D) ad2 slc Sc (L2.wipe σ vs) H2 ∧
        Ext (Wr U ad1 sl1 S1) (lc ad1) S1.length H1 (Wr (Ub U D) ad2 slc Sc) (lc ad2) Sc.length H2 ∧ (∀ a o, U a → H1 a = some o → H2 a = some o) ∧
        H2 D = some (.lst ys) ∧ Reps C (Wr (Ub U D) ad2 slc Sc) (lc ad2) Sc.length H2 acc ys ∧ lcGo its.gd g t e vs (its.ds.drop i) acc slc Sc = some (acc0, sl2, S'),
        ⟨its.ds.length, by simp, Nat.zero_le _, ad1, wipeS sl1 vs, S1, [], [], s1d, n1w.ext.trans x1d, fun a o u q => by rw [upd_ne (ne_of_none q hD)]; exact q, upd_same, .nil, by simpa using e2⟩, ?_⟩
      rintro i mm H2 ⟨rfl, hi, ad2, slc, Sc, acc, ys, sc, xc, ku, hDy, racc, ec⟩
      cases q : its.ds.drop i with
      | nil =>
        rw [q] at ec
        simp only [lcGo] at ec
        split at ec
        · rename_i hgd
          cases ec
          have hnone : its.ds[i]? = none := by
            rw [List.getElem?_eq_none_iff]
            exact List.drop_eq_nil_iff.mp q
          obtain ⟨sd, xd⟩ := sc.del hUD
          have xall := xc.trans xd
          -- the iterator is asked in the state with the new list
          refine .inl ⟨?_, ?_⟩
          · exact (jo _ ad2 _ _ _ H2 sc xc hgd i).2 hnone
          · have sdu := sd.unwipe
            obtain ⟨sr, nr⟩ := Sim.rest (sl0 := sl1) vs sdu fun v hv d hd => by
              obtain ⟨x, hx, rx⟩ := s1.slt v _ hd
              cases rx with
              | val r => exact ⟨x, hx, r.mono xall⟩
            have fin := k ad2 (PS.del H2 D) D (.lst ys) sr (n1.trans (Nx.trans ⟨xall, fun a o u z => by rw [del_ne fun w => hUD (by rw [← w]; exact u)]; exact ku a o u z⟩ nr)) del_same True.intro (.lst (Reps.mono nr.ext (Reps.mono xd racc)))
            rw [upd_del hDy] at fin
            exact fin
        · cases ec
      | cons d rest =>
        obtain ⟨hd, hrest, hlt⟩ := drop_at q
        rw [q] at ec
        simp only [lcGo] at ec
        split at ec
        · rename_i hgd
          obtain ⟨hgo, hy⟩ := (jo _ ad2 _ _ _ H2 sc xc hgd i).1 d hd
          refine .inr ⟨hgo, fun H3 => ∃ ad3 slc Sc acc ys, Sim C (Ub U D) ad3 slc Sc (L2.wipe σ vs) H3 ∧
            Ext (Wr U ad1 sl1 S1) (lc ad1) S1.length H1 (Wr (Ub U D) ad3 slc Sc) (lc ad3) Sc.length H3 ∧ (∀ a o, U a → H1 a = some o → H3 a = some o) ∧
            H3 D = some (.lst ys) ∧ Reps C (Wr (Ub U D) ad3 slc Sc) (lc ad3) Sc.length H3 acc ys ∧ lcGo its.gd g t e vs rest acc slc Sc = some (acc0, sl2, S'),
            fun H3 ⟨ad3, slc, Sc, acc, ys, h1, h2, h3, h4, h5, h6⟩ => ⟨its.ds.length - (i + 1), by omega, rfl, hlt, ad3, slc, Sc, acc, ys, h1, h2, h3, h4, h5, by rw [hrest]; exact h6⟩, fun x H3 y => ?_⟩
          obtain ⟨s3, n3, r3⟩ := hy x H3 y
          split at ec
          · rename_i sl4 S4 e4
            refine ⟨Ub U D, ad2, slc, Sc, d, sl4, S4, s3, r3, e4, fun ad4 H4 σ4 s4 n4 c4 => ⟨wipe_ch c4 hu, ?_⟩⟩
            have hw := wipe_ch c4 hu
            have n34 := n3.trans n4
            -- what is known behind a step
            have go : ∀ {ad5 : Cell → Addr} {sl5 : Sl} {S5 : Sto} {H5 : Hp}, Sim C (Ub U D) ad5 sl5 S5 σ4 H5 → Nx (Ub U D) ad4 sl4 S4 H4 ad5 sl5 S5 H5 →
                Sim C (Ub U D) ad5 (wipeS sl5 vs) S5 (L2.wipe σ vs) H5 ∧ Nx (Ub U D) ad2 slc Sc H2 ad5 (wipeS sl5 vs) S5 H5 := fun {ad5 sl5 S5 H5} s5 n5 => by
              obtain ⟨s6, n6⟩ := s5.wipe vs
              rw [hw] at s6
              exact ⟨s6, (n34.trans n5).trans n6⟩
            split at ec
            · rename_i sl5 S5 e5
              refine ⟨Ub U D, ad4, sl4, S4, true, sl5, S5, s4, e5, fun ad5 H5 c s5 n5 r5 => ?_⟩
              cases r5
              rw [if_pos rfl]
              split at ec
              · rename_i y sl6 S6 e6
                refine ⟨Ub U D, ad5, sl5, S5, y, sl6, S6, s5, e6, fun ad6 H6 yv s6 n6 r6 => ?_⟩
                split at ec
                · rename_i hlen
                  obtain ⟨s7, n7⟩ := go s6 (n5.trans n6)
                  have hD6 : H6 D = some (.lst ys) := n7.ku D _ (.inr rfl) hDy
                  refine ⟨ys, hD6, by rw [← racc.length]; exact hlen, ?_⟩
                  obtain ⟨s8, x8⟩ := s7.bld hUD (ho := .lst (ys ++ [yv])) True.intro
                  obtain ⟨_, n9⟩ := s6.wipe vs
                  have r7 : Reps C (Wr (Ub U D) ad6 (wipeS sl6 vs) S6) (lc ad6) S6.length H6 (acc ++ [y]) (ys ++ [yv]) := (Reps.mono n7.ext racc).append (.cons (Rep.mono n9.ext r6) .nil)
                  refine ⟨ad6, _, S6, _, _, s8, (xc.trans n7.ext).trans x8, fun a o u q => ?_, upd_same, r7.mono x8, ec⟩
                  rw [upd_ne fun w => hUD (by rw [← w]; exact u)]
                  exact n7.ku a o (.inl u) (ku a o u q)
                · cases ec
              · cases ec
            · rename_i sl5 S5 e5
              refine ⟨Ub U D, ad4, sl4, S4, false, sl5, S5, s4, e5, fun ad5 H5 c s5 n5 r5 => ?_⟩
              cases r5
              rw [if_neg Bool.false_ne_true]
              obtain ⟨s7, n7⟩ := go s5 n5
              exact ⟨ad5, _, S5, _, _, s7, xc.trans n7.ext, fun a o u q => n7.ku a o (.inl u) (ku a o u q), n7.ku D _ (.inr rfl) hDy, Reps.mono n7.ext racc, ec⟩
            · cases ec
          · cases ec
        · cases ec
    · cases em
  · cases em
variable {scope : Scope} {own : List (Str × Nat)} {pos : Pos}
theorem en_lc (hc : X.calm = true) (hN : X.N.Nodup) (hi : EI X tg it m) (ok : BlkOk X.N X.env.scope scope own)
    (hg : ∀ (s : Shared) (H : Hp) (C : Addr) (cl : List (Str × Addr)) (fp : List Addr), EG (X.blk s H scope (compEnvC scope cl C X.env) fp) tg us g) (ht : ∀ (s : Shared) (H : Hp) (C : Addr) (cl : List (Str × Addr)) (fp : List Addr), ETs (X.blk s H scope (compEnvC scope cl C X.env) fp) ifs t)
    (he : ∀ (s : Shared) (H : Hp) (C : Addr) (cl : List (Str × Addr)) (fp : List Addr), EE (X.blk s H scope (compEnvC scope cl C X.env) fp) elt e) (hu : ∀ i ∈ us, i ∈ own.map (·.2) := by decide) (hs : ∀ x, foldedSetIterable it X.env x = pure x := by intro _; rfl) :
    EN X (.ListComp elt [⟨tg, it, ifs, 0⟩] scope pos) (nLc m g t e (own.map (·.2))) := pe_imp (pe_lc (g := tG (cf X) us g) (tt := tX rB (cf X) t) (te := tX rD (cf X) e) hc hN hi ok hg ht he hs) fun σ H Q q => tLc_of hu q
/-- name = [..] on one line: as the name's own, or as a value that is not written -/
theorem es_ownLc (i : Nat) {y : Str} {py spos : Pos} (hc : X.calm = true) (hN : X.N.Nodup) (hi : EI X tg it m) (ok : BlkOk X.N X.env.scope scope own)
    (hg : ∀ (s : Shared) (H : Hp) (C : Addr) (cl : List (Str × Addr)) (fp : List Addr), EG (X.blk s H scope (compEnvC scope cl C X.env) fp) tg us g) (ht : ∀ (s : Shared) (H : Hp) (C : Addr) (cl : List (Str × Addr)) (fp : List Addr), ETs (X.blk s H scope (compEnvC scope cl C X.env) fp) ifs t)
    (he : ∀ (s : Shared) (H : Hp) (C : Addr) (cl : List (Str × Addr)) (fp : List Addr), EE (X.blk s H scope (compEnvC scope cl C X.env) fp) elt e)
    (hsw : swapsWith (.ListComp elt [⟨tg, it, ifs, 0⟩] scope pos) (some (.Name y py)) spos.line X.env = pure true) (hu : ∀ i ∈ us, i ∈ own.map (·.2) := by decide) (hs : ∀ x, foldedSetIterable it X.env x = pure x := by intro _; rfl)
    (hy : X.N[i]? = some y := by rfl) (hyl : X.env.scope.names.lookup y = some .local := by rfl) :
    ES X (.Assign [.Name y py] (.ListComp elt [⟨tg, it, ifs, 0⟩] scope pos) spos) (sOwn i (nLc m g t e (own.map (·.2)))) := ps_imp (ps_setLc (g := tG (cf X) us g) (tt := tX rB (cf X) t) (te := tX rD (cf X) e) hc hN hy hyl hsw hi ok hg ht he hs) fun D σ H q => by
  have z := sOwn_of q
  exact tLc_of hu z
end
end PS

namespace PS
open PySem PySem.Spec PyProof.Rows L2

/-! ### what a call leaves behind -/
mutual
/-- the tree with its numbers put in by r -/
def fzF (r : Nat → Option D) : D → Option D
  | .loc n => r n
  | .tup ds => (fzFs r ds).map .tup
  | .lst ds => (fzFs r ds).map .lst
  | .dct t kvs => (fzFk r kvs).map (.dct t)
  | .ins c fs => (fzFf r fs).map (.ins c)
  | .non => some .non
  | .bl b => some (.bl b)
  | .int i => some (.int i)
  | .str x => some (.str x)
  | .fn x => some (.fn x)
  | .pr _ => none
def fzFs (r : Nat → Option D) : List D → Option (List D)
  | [] => some []
  | d :: ds => match fzF r d, fzFs r ds with
    | some e, some es => some (e :: es)
    | _, _ => none
def fzFk (r : Nat → Option D) : List (D × D) → Option (List (D × D))
  | [] => some []
  | (d, e) :: ds => match fzF r d, fzF r e, fzFk r ds with
    | some d', some e', some es => if nk d' = nk d ∧ ky d' = ky d then some ((d', e') :: es) else none
    | _, _, _ => none
def fzFf (r : Nat → Option D) : List (Str × D) → Option (List (Str × D))
  | [] => some []
  | (x, e) :: ds => match fzF r e, fzFf r ds with
    | some e', some es => some ((x, e') :: es)
    | _, _ => none
end
def fzO (r : Nat → Option D) : Ob → Option Ob
  | .lst ds => (fzFs r ds).map .lst
  | .dct t kvs => (fzFk r kvs).map (.dct t)
  | .ins c fs => (fzFf r fs).map (.ins c)
section
variable {C : Cf} {W W' : Addr → Prop} {al : Nat → Addr} {N N' : Nat} {H : Hp} {r : Nat → Option D}
mutual
theorem Rep.fzF (hw : ∀ a, W' a → W a) (hr : ∀ n d, n < N → r n = some d → Rep C W' al N' H d (.ref (al n))) : ∀ {d d' : D} {v : V}, Rep C W al N H d v → PS.fzF r d = some d' → Rep C W' al N' H d' v
  | _, _, _, .non, e => by rw [PS.fzF] at e; cases e; exact .non
  | _, _, _, .bl b, e => by rw [PS.fzF] at e; cases e; exact .bl b
  | _, _, _, .int i, e => by rw [PS.fzF] at e; cases e; exact .int i
  | _, _, _, .str x, e => by rw [PS.fzF] at e; cases e; exact .str x
  | _, _, _, .tup w h q, e => by
    rw [PS.fzF, Option.map_eq_some_iff] at e
    obtain ⟨es, e1, rfl⟩ := e
    exact .tup (fun z => w (hw _ z)) h (Reps.fzF hw hr q e1)
  | _, _, _, .ktup h q, e => by
    rw [PS.fzF, Option.map_eq_some_iff] at e
    obtain ⟨es, e1, rfl⟩ := e
    exact .ktup h (Reps.fzF hw hr q e1)
  | _, _, _, .lst w h q, e => by
    rw [PS.fzF, Option.map_eq_some_iff] at e
    obtain ⟨es, e1, rfl⟩ := e
    exact .lst (fun z => w (hw _ z)) h (RepH.fzF hw hr q (by rw [fzO, e1]; rfl))
  | _, _, _, .klst h q, e => by
    rw [PS.fzF, Option.map_eq_some_iff] at e
    obtain ⟨es, e1, rfl⟩ := e
    exact .klst h (Reps.fzF hw hr q e1)
  | _, _, _, .dct w h q, e => by
    rw [PS.fzF, Option.map_eq_some_iff] at e
    obtain ⟨es, e1, rfl⟩ := e
    exact .dct (fun z => w (hw _ z)) h (RepH.fzF hw hr q (by rw [fzO, e1]; rfl))
  | _, _, _, .ins w h q, e => by
    rw [PS.fzF, Option.map_eq_some_iff] at e
    obtain ⟨es, e1, rfl⟩ := e
    exact .ins (fun z => w (hw _ z)) h (RepH.fzF hw hr q (by rw [fzO, e1]; rfl))
  | _, _, _, .pr w h q, e => by rw [PS.fzF] at e; cases e
  | _, _, _, .loc h, e => by rw [PS.fzF] at e; exact hr _ _ h e
  | _, _, _, .fn h q, e => by rw [PS.fzF] at e; cases e; exact .fn h q
theorem RepH.fzF (hw : ∀ a, W' a → W a) (hr : ∀ n d, n < N → r n = some d → Rep C W' al N' H d (.ref (al n))) : ∀ {a : Addr} {ob ob' : Ob} {ho : HO}, RepH C W al N H a ob ho → fzO r ob = some ob' → RepH C W' al N' H a ob' ho
  | _, _, _, _, .lst q, e => by
    rw [fzO, Option.map_eq_some_iff] at e
    obtain ⟨es, e1, rfl⟩ := e
    exact .lst (Reps.fzF hw hr q e1)
  | _, _, _, _, .dctM q, e => by
    rw [fzO, Option.map_eq_some_iff] at e
    obtain ⟨es, e1, rfl⟩ := e
    exact .dctM (RepKM.fzF hw hr q e1)
  | _, _, _, _, .dctN q, e => by
    rw [fzO, Option.map_eq_some_iff] at e
    obtain ⟨es, e1, rfl⟩ := e
    exact .dctN (RepKN.fzF hw hr q e1)
  | _, _, _, _, .ins h q, e => by
    rw [fzO, Option.map_eq_some_iff] at e
    obtain ⟨es, e1, rfl⟩ := e
    exact .ins h (RepF.fzF hw hr q e1)
theorem Reps.fzF (hw : ∀ a, W' a → W a) (hr : ∀ n d, n < N → r n = some d → Rep C W' al N' H d (.ref (al n))) : ∀ {ds es : List D} {vs : List V}, Reps C W al N H ds vs → fzFs r ds = some es → Reps C W' al N' H es vs
  | _, _, _, .nil, e => by rw [fzFs] at e; cases e; exact .nil
  | _, _, _, .cons q t, e => by
    rw [fzFs] at e
    split at e
    · rename_i e1 e2
      cases e
      exact .cons (Rep.fzF hw hr q e1) (Reps.fzF hw hr t e2)
    · cases e
theorem RepKM.fzF (hw : ∀ a, W' a → W a) (hr : ∀ n d, n < N → r n = some d → Rep C W' al N' H d (.ref (al n))) : ∀ {kvs kvs' : List (D × D)} {ws : List (Key × V)}, RepKM C W al N H kvs ws → fzFk r kvs = some kvs' → RepKM C W' al N' H kvs' ws
  | _, _, _, .nil, e => by rw [fzFk] at e; cases e; exact .nil
  | _, _, _, .cons h q t, e => by
    rw [fzFk] at e
    split at e
    · rename_i e1 e2 e3
      split at e
      · rename_i hk
        cases e
        exact .cons (hk.2.trans h) (Rep.fzF hw hr q e2) (RepKM.fzF hw hr t e3)
      · cases e
    · cases e
theorem RepKN.fzF (hw : ∀ a, W' a → W a) (hr : ∀ n d, n < N → r n = some d → Rep C W' al N' H d (.ref (al n))) : ∀ {kvs kvs' : List (D × D)} {xs : List (NestedKey × Addr × Value)}, RepKN C W al N H kvs xs → fzFk r kvs = some kvs' → RepKN C W' al N' H kvs' xs
  | _, _, _, .nil, e => by rw [fzFk] at e; cases e; exact .nil
  | _, _, _, .cons h q q2 q3 t, e => by
    rw [fzFk] at e
    split at e
    · rename_i e1 e2 e3
      split at e
      · rename_i hk
        cases e
        exact .cons (hk.1.trans h) (Rep.fzF hw hr q e1) q2 (Rep.fzF hw hr q3 e2) (RepKN.fzF hw hr t e3)
      · cases e
    · cases e
theorem RepF.fzF (hw : ∀ a, W' a → W a) (hr : ∀ n d, n < N → r n = some d → Rep C W' al N' H d (.ref (al n))) : ∀ {fs fs' : List (Str × D)} {gs : List (Str × V)}, RepF C W al N H fs gs → fzFf r fs = some fs' → RepF C W' al N' H fs' gs
  | _, _, _, .nil, e => by rw [fzFf] at e; cases e; exact .nil
  | _, _, _, .cons q t, e => by
    rw [fzFf] at e
    split at e
    · rename_i e1 e2
      cases e
      exact .cons (Rep.fzF hw hr q e1) (RepF.fzF hw hr t e2)
    · cases e
end
end
/-- numbers below n0 stay, the others are put in as they stand -/
def fzR (n0 : Nat) (S : Sto) : Nat → Nat → Option D
  | 0 => fun n => if n < n0 then some (.loc n) else none
  | k + 1 => fun n => if n < n0 then some (.loc n) else match S[n]? with
    | some ob => fzF (fzR n0 S k) ob.fz
    | none => none
def fzOs (n0 : Nat) (S : Sto) : Nat → Option Sto
  | 0 => some []
  | k + 1 => match fzOs n0 S k, S[k]? with
    | some T, some ob => (fzO (fzR n0 S S.length) ob).map fun o => T ++ [o]
    | _, _ => none
/-- a call's end: the objects that it made are no more written -/
def rel (n0 : Nat) (p : D × Sto) : Option (D × Sto) := if p.2.length = n0 then some p else
  match fzF (fzR n0 p.2 p.2.length) p.1, fzOs n0 p.2 n0 with
  | some d, some T => some (d, T)
  | _, _ => none
section
variable {C : Cf} {U : Addr → Prop} {ad ad' : Cell → Addr} {S S' : Sto} {H H' : Hp}
theorem fzOs_some {n0 : Nat} {S : Sto} : ∀ {k : Nat} {T : Sto}, fzOs n0 S k = some T → T.length = k ∧ ∀ i, i < k → ∃ ob ob', S[i]? = some ob ∧ fzO (fzR n0 S S.length) ob = some ob' ∧ T[i]? = some ob'
  | 0, T, h => by cases h; exact ⟨rfl, fun i hi => absurd hi (by omega)⟩
  | k + 1, T, h => by
    rw [fzOs] at h
    split at h
    · rename_i T0 ob h1 h2
      rw [Option.map_eq_some_iff] at h
      obtain ⟨o, h3, rfl⟩ := h
      obtain ⟨l, g⟩ := fzOs_some h1
      refine ⟨by rw [List.length_append, l]; rfl, fun i hi => ?_⟩
      by_cases e : i = k
      · subst e
        exact ⟨ob, o, h2, h3, by rw [List.getElem?_append_right (by omega), l, Nat.sub_self]; rfl⟩
      · obtain ⟨a, b, q1, q2, q3⟩ := g i (by omega)
        exact ⟨a, b, q1, q2, by rw [List.getElem?_append_left (by omega)]; exact q3⟩
    · cases h
theorem rel_ok {d d2 : D} {S2 : Sto} {v : V} (s : Sim C U ad' [] S' [] H') (n : Nx U ad [] S H ad' [] S' H') (r : Rep C (Wr U ad' [] S') (lc ad') S'.length H' d v) (h : rel S.length (d, S') = some (d2, S2)) :
    Sim C U ad' [] S2 [] H' ∧ Nx U ad [] S H ad' [] S2 H' ∧ Rep C (Wr U ad' [] S2) (lc ad') S2.length H' d2 v := by
  unfold rel at h
  split at h
  · cases h; exact ⟨s, n, r⟩
  · split at h
    · rename_i d3 T e1 e2
      cases h
      obtain ⟨hl, hT⟩ := fzOs_some e2
      have hn : S.length ≤ S'.length := n.ext.nn
      have wl : ∀ a, Wr U ad' [] S2 a → Wr U ad' [] S' a := fun a z => z.imp (fun u => u) fun ⟨c, ob, h1, h2⟩ => by
        cases c with
        | inr i => simp [objAt] at h1
        | inl i =>
          have hi : i < S.length := by rw [← hl]; exact (List.getElem?_eq_some_iff.mp h1).1
          obtain ⟨o1, o2, q1, q2, q3⟩ := hT i hi
          exact ⟨.inl i, o1, q1, h2⟩
      have hrec : ∀ k n d, n < S'.length → fzR S.length S' k n = some d → Rep C (Wr U ad' [] S2) (lc ad') S2.length H' d (.ref (lc ad' n)) := by
        intro k
        induction k with
        | zero =>
          intro n d hn h
          simp only [fzR] at h
          split at h
          · cases h; exact .loc (by rw [hl]; assumption)
          · cases h
        | succ k ih =>
          intro n d hn h
          simp only [fzR] at h
          split at h
          · cases h; exact .loc (by rw [hl]; assumption)
          · rename_i hge
            split at h
            · rename_i ob ho
              obtain ⟨o, q1, q2, q3⟩ := s.cel (.inl n) ob ho
              have nw : ¬ Wr U ad' [] S2 (ad' (.inl n)) := fun z => by
                rcases z with z | ⟨c, ob', z1, z2⟩
                · exact s.out (.inl n) ob ho z
                · cases c with
                  | inr i => simp [objAt] at z1
                  | inl i =>
                    have hi : i < S.length := by rw [← hl]; exact (List.getElem?_eq_some_iff.mp z1).1
                    obtain ⟨o1, o2, w1, w2, w3⟩ := hT i hi
                    have := s.inj (.inl i) (.inl n) o1 ob w1 ho z2
                    injection this with this
                    subst this
                    exact hge hi
              -- what stands there, its parts put in
              cases ob with
              | lst ds =>
                rw [Ob.fz, fzF, Option.map_eq_some_iff] at h
                obtain ⟨es, e3, rfl⟩ := h
                exact .lst nw (.inl q1) (q3.fzF wl ih (by rw [fzO, e3]; rfl))
              | dct t kvs =>
                rw [Ob.fz, fzF, Option.map_eq_some_iff] at h
                obtain ⟨es, e3, rfl⟩ := h
                exact .dct nw (.inl q1) (q3.fzF wl ih (by rw [fzO, e3]; rfl))
              | ins c fs =>
                rw [Ob.fz, fzF, Option.map_eq_some_iff] at h
                obtain ⟨es, e3, rfl⟩ := h
                exact .ins nw q1 (q3.fzF wl ih (by rw [fzO, e3]; rfl))
            · cases h
      refine ⟨⟨rfl, fun c ob h1 => ?_, fun i sv q => by simp at q, fun c c' ob ob' h1 h2 e => ?_, fun c ob h1 => ?_, s.utr⟩, ⟨⟨by rw [hl]; exact Nat.le_refl _, n.ext.al, fun a z => n.ext.wr a (wl a z), n.ext.kp⟩, n.ku⟩, r.fzF wl (hrec _) e1⟩
      · cases c with
        | inr i => simp [objAt] at h1
        | inl i =>
          have hi : i < S.length := by rw [← hl]; exact (List.getElem?_eq_some_iff.mp h1).1
          obtain ⟨o1, o2, w1, w2, w3⟩ := hT i hi
          have e : some o2 = some ob := w3.symm.trans h1
          cases e
          obtain ⟨o, q1, q2, q3⟩ := s.cel (.inl i) o1 w1
          exact ⟨o, q1, q2, q3.fzF wl (hrec _) w2⟩
      · cases c with
        | inr i => simp [objAt] at h1
        | inl i =>
          cases c' with
          | inr j => simp [objAt] at h2
          | inl j =>
            have hi : i < S.length := by rw [← hl]; exact (List.getElem?_eq_some_iff.mp h1).1
            have hj : j < S.length := by rw [← hl]; exact (List.getElem?_eq_some_iff.mp h2).1
            obtain ⟨o1, _, w1, _, _⟩ := hT i hi
            obtain ⟨o2, _, w2, _, _⟩ := hT j hj
            exact s.inj _ _ o1 o2 w1 w2 e
      · cases c with
        | inr i => simp [objAt] at h1
        | inl i =>
          have hi : i < S.length := by rw [← hl]; exact (List.getElem?_eq_some_iff.mp h1).1
          obtain ⟨o1, o2, w1, w2, w3⟩ := hT i hi
          exact s.out (.inl i) o1 w1
    · cases h
end

/-! ### defs -/
abbrev FD := List D → Sto → Option (D × Sto)
/-- a def's promise -/
def spOf (C : Cf) (f : FD) : Sp := fun vs H Q _ => ∃ U ad S ds d S', Sim C U ad [] S [] H ∧ Reps C (Wr U ad [] S) (lc ad) S.length H ds vs ∧ f ds S = some (d, S') ∧
  ∀ ad' H' v, Sim C U ad' [] S' [] H' → Nx U ad [] S H ad' [] S' H' → Rep C (Wr U ad' [] S') (lc ad') S'.length H' d v → Q v H'
def runB (p n : Nat) (b : MS) : FD := fun ds S => if ds.length = p then (match b (ds.map (fun d => some (.val d)) ++ List.replicate (n - ds.length) none) S with
  | some (.rt d, _, S') => some (d, S')
  | some (.nx, _, S') => some (.non, S')
  | _ => none) else none
def relF (f : FD) : FD := fun ds S => match f ds S with
  | some p => rel S.length p
  | none => none
theorem spOf_rel {C : Cf} {f : FD} {vs : List V} {H : Hp} {Q : VK} {E : XK} (h : spOf C (relF f) vs H Q E) : spOf C f vs H Q E := by
  obtain ⟨U, ad, S, ds, d, S', s, r, e, k⟩ := h
  unfold relF at e
  split at e
  · rename_i p e1
    obtain ⟨d1, S1⟩ := p
    refine ⟨U, ad, S, ds, d1, S1, s, r, e1, fun ad' H' v s1 n1 r1 => ?_⟩
    obtain ⟨s2, n2, r2⟩ := rel_ok s1 n1 r1 e
    exact k ad' H' v s2 n2 r2
  · cases e
section
variable {C : Cf} {U : Addr → Prop} {ad ad' : Cell → Addr} {sl : Sl} {S S' : Sto} {σ : L2.St} {H H' : Hp}
theorem Sim.drop (s : Sim C U ad sl S σ H) : Sim C U ad [] S [] H ∧ Nx U ad sl S H ad [] S H := by
  refine s.less (fun c ob h => ?_) (Nat.le_refl _) rfl fun i sv q => by simp at q
  cases c with
  | inl n => exact h
  | inr i => simp [objAt] at h
theorem start_get {N : Nat} {ds : List D} {i : Nat} {sv : SV} (h : (ds.map (fun d => some (SV.val d)) ++ List.replicate N none)[i]? = some (some sv)) : ∃ d, ds[i]? = some d ∧ sv = .val d := by
  by_cases l : i < ds.length
  · rw [List.getElem?_append_left (by simpa using l), List.getElem?_map, List.getElem?_eq_getElem l] at h
    cases h
    exact ⟨_, List.getElem?_eq_getElem l, rfl⟩
  · rw [List.getElem?_append_right (by simpa using l)] at h
    have := List.mem_of_getElem? h
    rw [List.mem_replicate] at this
    cases this.2
theorem Sim.begin {N : Nat} {ds : List D} {vs : List V} (s : Sim C U ad [] S [] H) (r : Reps C (Wr U ad [] S) (lc ad) S.length H ds vs) (σ : L2.St) (hσ : σ = vs.map some ++ List.replicate (N - vs.length) none) :
    Sim C U ad (ds.map (fun d => some (.val d)) ++ List.replicate (N - ds.length) none) S σ H ∧ Nx U ad [] S H ad (ds.map (fun d => some (.val d)) ++ List.replicate (N - ds.length) none) S H := by
  subst hσ
  have hob : ∀ c ob, objAt (ds.map (fun d => some (SV.val d)) ++ List.replicate (N - ds.length) none) S c = some ob → objAt [] S c = some ob := fun c ob h => by
    cases c with
    | inl n => exact h
    | inr i =>
      simp only [objAt] at h
      split at h
      · rename_i ob' q
        obtain ⟨d, _, e⟩ := start_get q
        cases e
      · cases h
  have wl : ∀ a, Wr U ad (ds.map (fun d => some (SV.val d)) ++ List.replicate (N - ds.length) none) S a → Wr U ad [] S a := fun a z => z.imp (fun u => u) fun ⟨c, ob', q, e⟩ => ⟨c, ob', hob c ob' q, e⟩
  have ext : Ext (Wr U ad [] S) (lc ad) S.length H (Wr U ad (ds.map (fun d => some (SV.val d)) ++ List.replicate (N - ds.length) none) S) (lc ad) S.length H := ⟨Nat.le_refl _, fun _ _ => rfl, fun a z => .inl (wl a z), fun _ _ _ q => .inl q⟩
  refine s.less hob (Nat.le_refl _) (by simp [r.length]) fun i sv q => ?_
  obtain ⟨d, hd, rfl⟩ := start_get q
  obtain ⟨v, hv, rv⟩ := r.get hd
  have hl : i < vs.length := (List.getElem?_eq_some_iff.mp hv).1
  refine ⟨v, ?_, .val (rv.mono ext)⟩
  rw [List.getElem?_append_left (by simpa using hl), List.getElem?_map, hv]; rfl
/-- what the frame itself may write, for its callees -/
def Uo (U : Addr → Prop) (ad : Cell → Addr) (sl : Sl) (S : Sto) : Addr → Prop := fun a => U a ∨ ∃ i ob, objAt sl S (.inr i) = some ob ∧ ad (.inr i) = a
theorem Sim.enter (s : Sim C U ad sl S σ H) : Sim C (Uo U ad sl S) ad [] S [] H ∧ Ext (Wr U ad sl S) (lc ad) S.length H (Wr (Uo U ad sl S) ad [] S) (lc ad) S.length H := by
  have wl : ∀ a, Wr (Uo U ad sl S) ad [] S a → Wr U ad sl S a := fun a z => by
    rcases z with (z | ⟨i, ob, h, e⟩) | ⟨c, ob, h, e⟩
    · exact .inl z
    · exact .inr ⟨_, ob, h, e⟩
    · cases c with
      | inl n => exact .inr ⟨.inl n, ob, h, e⟩
      | inr i => simp [objAt] at h
  have ext : Ext (Wr U ad sl S) (lc ad) S.length H (Wr (Uo U ad sl S) ad [] S) (lc ad) S.length H := ⟨Nat.le_refl _, fun _ _ => rfl, fun a z => .inl (wl a z), fun _ _ _ q => .inl q⟩
  refine ⟨⟨rfl, fun c ob h => ?_, fun i sv q => by simp at q, fun c c' ob ob' h h' e => ?_, fun c ob h z => ?_, fun a z => ?_⟩, ext⟩
  · cases c with
    | inr i => simp [objAt] at h
    | inl n =>
      obtain ⟨ho, q1, q2, q3⟩ := s.cel (.inl n) ob h
      exact ⟨ho, q1, q2, q3.mono ext⟩
  · cases c with
    | inr i => simp [objAt] at h
    | inl n =>
      cases c' with
      | inr i => simp [objAt] at h'
      | inl n' => exact s.inj _ _ ob ob' h h' e
  · cases c with
    | inr i => simp [objAt] at h
    | inl n =>
      rcases z with z | ⟨i, ob', h', e⟩
      · exact s.out (.inl n) ob h z
      · have := s.inj (.inr i) (.inl n) ob' ob h' h e
        cases this
  · rcases z with z | ⟨i, ob, h, e⟩
    · exact s.utr a z
    · subst e
      obtain ⟨ho, q1, q2, _⟩ := s.cel _ ob h
      exact ⟨ho, q1, q2⟩
/-- back in the frame -/
def adB (ad ad' : Cell → Addr) : Cell → Addr
  | .inl n => ad' (.inl n)
  | .inr i => ad (.inr i)
theorem Sim.back (s : Sim C U ad sl S σ H) (s' : Sim C (Uo U ad sl S) ad' [] S' [] H') (n' : Nx (Uo U ad sl S) ad [] S H ad' [] S' H') :
    Sim C U (adB ad ad') sl S' σ H' ∧ Nx U ad sl S H (adB ad ad') sl S' H' ∧ Ext (Wr (Uo U ad sl S) ad' [] S') (lc ad') S'.length H' (Wr U (adB ad ad') sl S') (lc (adB ad ad')) S'.length H' := by
  have oi : ∀ i, objAt sl S' (.inr i) = objAt sl S (.inr i) := fun _ => rfl
  have w2 : ∀ a, Wr U (adB ad ad') sl S' a → Wr (Uo U ad sl S) ad' [] S' a := fun a z => by
    rcases z with z | ⟨c, ob, h, e⟩
    · exact .inl (.inl z)
    · cases c with
      | inl n => exact .inr ⟨.inl n, ob, h, e⟩
      | inr i => exact .inl (.inr ⟨i, ob, h, e⟩)
  have x2 : Ext (Wr (Uo U ad sl S) ad' [] S') (lc ad') S'.length H' (Wr U (adB ad ad') sl S') (lc (adB ad ad')) S'.length H' := ⟨Nat.le_refl _, fun _ _ => rfl, fun a z => .inl (w2 a z), fun _ _ _ q => .inl q⟩
  have x : Ext (Wr U ad sl S) (lc ad) S.length H (Wr U (adB ad ad') sl S') (lc (adB ad ad')) S'.length H' := (s.enter.2.trans n'.ext).trans x2
  have ku : ∀ a o, U a → H a = some o → H' a = some o := fun a o u q => n'.ku a o (.inl u) q
  refine ⟨⟨s.len, fun c ob h => ?_, fun i sv q => ?_, fun c c' ob ob' h h' e => ?_, fun c ob h z => ?_, fun a z => ?_⟩, ⟨x, ku⟩, x2⟩
  · cases c with
    | inl n =>
      obtain ⟨ho, q1, q2, q3⟩ := s'.cel (.inl n) ob h
      exact ⟨ho, q1, q2, q3.mono x2⟩
    | inr i =>
      obtain ⟨ho, q1, q2, q3⟩ := s.cel (.inr i) ob h
      exact ⟨ho, n'.ku _ _ (.inr ⟨i, ob, h, rfl⟩) q1, q2, q3.mono x⟩
  · obtain ⟨v, r1, r2⟩ := s.slt i sv q
    exact ⟨v, r1, r2.mono x fun _ _ => rfl⟩
  · cases c with
    | inl n =>
      cases c' with
      | inl n' => exact s'.inj _ _ ob ob' h h' e
      | inr j => exact absurd (.inr ⟨j, ob', h', e.symm⟩) (s'.out (.inl n) ob h)
    | inr i =>
      cases c' with
      | inl n' => exact absurd (.inr ⟨i, ob, h, e⟩) (s'.out (.inl n') ob' h')
      | inr j => exact s.inj _ _ ob ob' h h' e
  · cases c with
    | inl n => exact s'.out (.inl n) ob h (.inl z)
    | inr i => exact s.out (.inr i) ob h z
  · obtain ⟨ho, q1, q2⟩ := s.utr a z
    exact ⟨ho, ku a ho z q1, q2⟩
end
/-- THE RULE for a def -/
theorem fnK {P : Program} {w : World} {K : PySem.W.Frag} {mg : Str → Option Value} {base : Heap} {CX : CXT} {k : Nat} {f : Addr} {name qual : Str} {params : Arguments} {body : List Stmt} {scope : Scope} {dV kV doc pm cdv ct oc : Value} {an od : Option Addr}
    {osl : Array (Option Value)} {N ps : List Str} {b : MS} (lk : K.lookup f = some ⟨oc, od, .func (PySem.W.fnOf name qual params body scope dV kV doc pm an cdv ct), osl⟩) (hcd : PySem.W.codeIn K cdv qual = true) (S : FnScope N ps scope)
    (hbody : ∀ (A : Around) (outer : List Env) (s : Shared) (H : Hp) (E : XK), Room k (A.deeper (envOfC qual scope s.heap.objs.size f cdv)) → ESs (cxOf CX P w K mg base N qual scope f cdv A outer s H E) body b) :
    FnOk P w K mg base CX (k + 1) f (PySem.W.fnOf name qual params body scope dV kV doc pm an cdv ct) ps (spOf ⟨P, w, K, mg⟩ (runB ps.length N.length b)) := by
  refine fn_of lk hcd S (fun vs H Q E h => ?_) fun A outer s H vs Q E hr h => ?_
  · obtain ⟨U, ad, S, ds, d, S', s, r, e, _⟩ := h
    unfold runB at e
    split at e
    · rw [← r.length]; assumption
    · cases e
  · obtain ⟨U, ad, S0, ds, d, S', sm, r, e, k⟩ := h
    refine ⟨_, hbody A outer s H E hr, ?_⟩
    obtain ⟨s1, n1⟩ := sm.begin (N := N.length) r (start N vs) rfl
    unfold runB at e
    rw [if_pos (by
      split at e
      · assumption
      · cases e)] at e
    split at e
    · rename_i d' sl' S1 e1
      cases e
      refine ⟨U, ad, _, S0, .rt d, sl', S', s1, e1, fun ad' H' σ' s2 n2 v rv => ?_⟩
      obtain ⟨s3, n3⟩ := s2.drop
      exact k ad' H' v s3 ((n1.trans n2).trans n3) (Rep.mono n3.ext rv)
    · rename_i sl' S1 e1
      cases e
      refine ⟨U, ad, _, S0, .nx, sl', S', s1, e1, fun ad' H' σ' s2 n2 => ?_⟩
      obtain ⟨s3, n3⟩ := s2.drop
      exact k ad' H' .non s3 ((n1.trans n2).trans n3) .non
    · cases e
theorem fnR {P : Program} {w : World} {K : PySem.W.Frag} {mg : Str → Option Value} {base : Heap} {CX : CXT} {k : Nat} {f : Addr} {fd : FuncData} {ps : List Str} {g : FD} (h : FnOk P w K mg base CX k f fd ps (spOf ⟨P, w, K, mg⟩ g)) :
    FnOk P w K mg base CX k f fd ps (spOf ⟨P, w, K, mg⟩ (relF g)) := h.imp fun _ _ _ _ q => spOf_rel q

/-! ### calls -/
def mCall (f : FD) (dd : List D) (ma : M (List D)) : M D := mBind ma fun ds => fun sl S => (f (ds ++ dd) S).map fun p => (p.1, sl, p.2)
/-- values that stand everywhere -/
def Cst (C : Cf) (dd : List D) (dvs : List V) : Prop := ∀ W al N H, Reps C W al N H dd dvs
theorem cst_nil {C : Cf} : Cst C [] [] := fun _ _ _ _ => .nil
theorem sp_call {C : Cf} {U : Addr → Prop} {ad : Cell → Addr} {sl : Sl} {S S' : Sto} {σ : L2.St} {H : Hp} {f : FD} {ds : List D} {vs : List V} {d : D} {Q : VK} {E : XK} (s : Sim C U ad sl S σ H) (r : Reps C (Wr U ad sl S) (lc ad) S.length H ds vs)
    (e : f ds S = some (d, S')) (k : ∀ ad' H' v, Sim C U ad' sl S' σ H' → Nx U ad sl S H ad' sl S' H' → Rep C (Wr U ad' sl S') (lc ad') S'.length H' d v → Q v H') : spOf C f vs H Q E := by
  obtain ⟨s1, x1⟩ := s.enter
  refine ⟨_, ad, S, ds, d, S', s1, r.mono x1, e, fun ad' H' v s2 n2 r2 => ?_⟩
  obtain ⟨s3, n3, x3⟩ := s.back s2 n2
  exact k _ H' v s3 n3 (r2.mono x3)
section
variable {X : Cx} {CX : CXT} {k n : Nat} {f Cl : Addr} {fd : FuncData} {ps : List Str} {dvs : List V} {dd : List D} {ds : List Value} {E : XK} {x m c : Str} {p pos apos : Pos} {e o : Expr} {es : List Expr} {ma : M (List D)} {mr : M D} {g : FD}
theorem tCall_of {C : Cf} (hD : Cst C dd dvs) {σ : L2.St} {H : Hp} {Q : VK} (h : tX rD C (mCall g dd ma) σ H Q) : tCall (spOf C g) dvs E (tX rL C ma) σ H Q := by
  obtain ⟨U, ad, sl, S, d, sl', S', s, e, q⟩ := h
  obtain ⟨ds, sl1, S1, e1, e2⟩ := mBind_some e
  refine ⟨U, ad, sl, S, ds, sl1, S1, s, e1, fun ad1 H1 vs s1 n1 r1 => ?_⟩
  rw [Option.map_eq_some_iff] at e2
  obtain ⟨⟨d2, S2⟩, e3, e4⟩ := e2
  cases e4
  exact sp_call s1 (Reps.append r1 (hD _ _ _ _)) e3 fun ad' H' v s2 n2 r2 => q ad' H' v s2 (n1.trans n2) r2
theorem passes {X : Cx} {CX : CXT} {E : XK} (h : CX = fun _ _ _ _ _ _ => False) : Passes CX X E := fun _ _ _ _ _ _ _ q => by rw [h] at q; exact q.elim
theorem ee_call (F : FnOk X.prog X.w X.K X.mg X.base CX k f fd ps (spOf (cf X) g)) (hr : Room k X.A) (hg : Gl X x) (hm : X.mg x = some (.ref f)) (hk : PySem.W.keepIn X.K (.ref f) = true) (hb : Binds X.K fd ps ds) (hd : Vals dvs ds) (hD : Cst (cf X) dd dvs) (hx : CX = fun _ _ _ _ _ _ => False)
    (ha : EA X (e :: es) ma) (hdb : (x == ("__debug__" : Str)) = false := by decide) (he : starEach (e :: es) X.env = (false, eval e X.env) :: starEach es X.env := by rfl) (hpl : (backTo pos (starEach es X.env)).any (·.1) = false := by rfl) :
    EE X (.Call (.Name x p) (e :: es) [] pos) (mCall g dd ma) := pe_imp (pe_call (E := fun _ _ _ => True) F hr hg hm hk hb hd (passes hx) ha hdb he hpl) fun _ _ _ q => tCall_of hD q
theorem ee_call0 (F : FnOk X.prog X.w X.K X.mg X.base CX k f fd ps (spOf (cf X) g)) (hr : Room k X.A) (hg : Gl X x) (hm : X.mg x = some (.ref f)) (hk : PySem.W.keepIn X.K (.ref f) = true) (hb : Binds X.K fd ps ds) (hd : Vals dvs ds) (hD : Cst (cf X) dd dvs) (hx : CX = fun _ _ _ _ _ _ => False)
    (hdb : (x == ("__debug__" : Str)) = false := by decide) : EE X (.Call (.Name x p) [] [] pos) (mCall g dd aN) := pe_imp (pe_call0 (E := fun _ _ _ => True) F hr hg hm hk hb hd (passes hx) hdb) fun σ H Q q => by
  obtain ⟨U, ad, sl, S, d, sl', S', s, e, q⟩ := q
  obtain ⟨ds, sl1, S1, e1, e2⟩ := mBind_some e
  cases e1
  rw [Option.map_eq_some_iff] at e2
  obtain ⟨⟨d2, S2⟩, e3, e4⟩ := e2
  cases e4
  exact sp_call (E := fun _ _ _ => True) s (Reps.append .nil (hD _ _ _ _)) e3 fun ad' H' v s2 n2 r2 => q ad' H' v s2 n2 r2

/-- o.m(..), the receiver an object of the store or a frozen one -/
def mMeth (c m : Str) (f : FD) (dd : List D) (mr : M D) (ma : M (List D)) : M D := mBind mr fun r => fun sl S => match vwD S r with
  | some (.ins c' fs) => if c' = c ∧ (fs.lookup m).isNone = true then mBind ma (fun ds => fun sl S => (f (r :: (ds ++ dd)) S).map fun p => (p.1, sl, p.2)) sl S else none
  | _ => none
theorem RepF.none {C : Cf} {W : Addr → Prop} {al : Nat → Addr} {N : Nat} {H : Hp} {m : Str} : ∀ {fs : List (Str × D)} {gs : List (Str × V)}, RepF C W al N H fs gs → (fs.lookup m).isNone = true → gs.lookup m = none
  | _, _, .nil, _ => rfl
  | _, _, @RepF.cons _ _ _ _ _ f e v fs gs r t, h => by
    rw [List.lookup_cons] at h ⊢
    split at h
    · cases h
    · rename_i q; exact RepF.none t h
theorem tMeth_of {C : Cf} (hD : Cst C dd dvs) (hc : C.mg c = some (.ref Cl)) {σ : L2.St} {H : Hp} {Q : VK} (h : tX rD C (mMeth c m g dd mr ma) σ H Q) : tMeth Cl m (spOf C g) dvs E (tX rD C mr) (tX rL C ma) σ H Q := by
  refine tX_bind h fun U ad sl S r d sl' S' H1 v s rr e k => ?_
  split at e
  · rename_i c' fs hv
    split at e
    · rename_i hh
      obtain ⟨rfl, hn⟩ := hh
      have rv := s.viewD rr hv
      cases rv with
      | ins h1 r1 =>
        cases r1 with
        | ins h2 r2 =>
          rw [hc] at h2
          cases h2
          refine ⟨_, _, _, rfl, h1, RepF.none r2 hn, ?_⟩
          obtain ⟨ds, sl1, S1, e1, e2⟩ := mBind_some e
          refine ⟨U, ad, sl, S, ds, sl1, S1, s, e1, fun ad1 H2 vs s1 n1 r1 => ?_⟩
          rw [Option.map_eq_some_iff] at e2
          obtain ⟨⟨d2, S2⟩, e3, e4⟩ := e2
          cases e4
          exact sp_call s1 (.cons (Rep.mono n1.ext rr) (Reps.append r1 (hD _ _ _ _))) e3 fun ad' H' v s2 n2 r2 => k ad' H' v s2 (n1.trans n2) r2
    · cases e
  · cases e
theorem ee_meth {pl : Sem Bool} (he : EE X o mr) (hc : X.mg c = some (.ref Cl)) (cl : Cls X.K Cl) (hm : Meth X.K Cl m f) (F : FnOk X.prog X.w X.K X.mg X.base CX k f fd ps (spOf (cf X) g)) (hr : Room k X.A) (hb : Binds X.K fd ps ds) (hd : Vals dvs ds) (hD : Cst (cf X) dd dvs) (hx : CX = fun _ _ _ _ _ _ => False) (ha : EA X (e :: es) ma)
    (hst : starEach (e :: es) X.env = (false, eval e X.env) :: starEach es X.env := by rfl) (hpl : (backTo pos (starEach es X.env)).any (·.1) = false := by rfl)
    (ht : eval (.Call (.Attribute o m apos) (e :: es) [] pos) X.env = (do
      let ov ← eval o X.env
      standAt apos.atName
      let (f, first) ← holding [ov] (getMethod ov m pl)
      callWith pos f first (backTo pos (starEach (e :: es) X.env)) (backToKw pos (keywordEach [] X.env))) := by rfl) :
    EE X (.Call (.Attribute o m apos) (e :: es) [] pos) (mMeth c m g dd mr ma) := pe_imp (pe_meth (E := fun _ _ _ => True) he cl hm F hr hb hd (passes hx) ha hst hpl ht) fun _ _ _ q => tMeth_of hD hc q
theorem ee_meth0 {pl : Sem Bool} (he : EE X o mr) (hc : X.mg c = some (.ref Cl)) (cl : Cls X.K Cl) (hm : Meth X.K Cl m f) (F : FnOk X.prog X.w X.K X.mg X.base CX k f fd ps (spOf (cf X) g)) (hr : Room k X.A) (hb : Binds X.K fd ps ds) (hd : Vals dvs ds) (hD : Cst (cf X) dd dvs) (hx : CX = fun _ _ _ _ _ _ => False)
    (ht : eval (.Call (.Attribute o m apos) [] [] pos) X.env = (do
      let ov ← eval o X.env
      standAt apos.atName
      let (f, first) ← holding [ov] (getMethod ov m pl)
      callWith pos f first (backTo pos (starEach [] X.env)) (backToKw pos (keywordEach [] X.env))) := by rfl) :
    EE X (.Call (.Attribute o m apos) [] [] pos) (mMeth c m g dd mr aN) := pe_imp (pe_meth0 (E := fun _ _ _ => True) he cl hm F hr hb hd (passes hx) ht) fun σ H Q q => by
  have z := tMeth_of (E := fun _ _ _ => True) hD hc q
  obtain ⟨U, ad, sl, S, d, sl', S', s, e, q⟩ := z
  refine ⟨U, ad, sl, S, d, sl', S', s, e, fun ad1 H1 v s1 n1 r1 => ?_⟩
  obtain ⟨a, dx, fs, h1, h2, h3, h4⟩ := q ad1 H1 v s1 n1 r1
  refine ⟨a, dx, fs, h1, h2, h3, ?_⟩
  obtain ⟨U, ad, sl, S, d, sl', S', s, e, q⟩ := h4
  cases e
  exact q ad H1 [] s Nx.refl .nil

/-- C(..), the object in the store -/
def mkK (c : Str) (f : FD) : FD := fun ds S => match f (.loc S.length :: ds) (S ++ [.ins c []]) with
  | some (.non, S2) => some (.loc S.length, S2)
  | _ => none
theorem sp_mk {C : Cf} {U : Addr → Prop} {ad : Cell → Addr} {S S' : Sto} {H : Hp} {f : FD} {ds : List D} {vs : List V} {d : D} {Q : VK} {E : XK} {x dx : Addr} (hc : C.mg c = some (.ref Cl)) (s : Sim C U ad [] S [] H) (r : Reps C (Wr U ad [] S) (lc ad) S.length H ds vs)
    (e : mkK c f ds S = some (d, S')) (hx : H x = none) (hdx : H dx = none) (hne : dx ≠ x) (k : ∀ ad' H' v, Sim C U ad' [] S' [] H' → Nx U ad [] S H ad' [] S' H' → Rep C (Wr U ad' [] S') (lc ad') S'.length H' d v → v = .ref x → Q v H') :
    spOf C f (.ref x :: vs) (upd (upd H dx (.own x)) x (.ins Cl dx [])) (fun v H2 => v = .non ∧ Q (.ref x) H2) E := by
  obtain ⟨s1, n1⟩ := s.laid (p := dx) (o := .own x) hdx
  have hx1 : upd H dx (.own x) x = none := by rw [upd_ne (Ne.symm hne)]; exact hx
  obtain ⟨ad2, s2, n2, ea⟩ := s1.box (ob := .ins c []) (ho := .ins Cl dx []) hx1 True.intro (.ins hc .nil)
  have hl : Rep C (Wr U ad2 [] (S ++ [.ins c []])) (lc ad2) (S ++ [Ob.ins c []]).length (upd (upd H dx (.own x)) x (.ins Cl dx [])) (.loc S.length) (.ref (lc ad2 S.length)) := .loc (by simp)
  rw [show lc ad2 S.length = x from ea] at hl
  unfold mkK at e
  split at e
  · rename_i S2 e1
    cases e
    refine ⟨U, ad2, _, _, .non, S', s2, .cons hl (Reps.mono n2.ext (Reps.mono n1.ext r)), e1, fun ad' H' v s3 n3 r3 => ?_⟩
    cases r3
    exact ⟨rfl, k ad' H' (.ref x) s3 ((n1.trans n2).trans n3) (Rep.mono n3.ext hl) rfl⟩
  · cases e
theorem tMake_of {C : Cf} (hD : Cst C dd dvs) (hc : C.mg c = some (.ref Cl)) {σ : L2.St} {H : Hp} {Q : VK} (h : tX rD C (mCall (mkK c g) dd ma) σ H Q ∨ tX rD C (mCall (relF (mkK c g)) dd ma) σ H Q) : tMake Cl (spOf C g) dvs E (tX rL C ma) σ H Q := by
  rcases h with h | h
  · obtain ⟨U, ad, sl, S, d, sl', S', s, e, q⟩ := h
    obtain ⟨ds, sl1, S1, e1, e2⟩ := mBind_some e
    refine ⟨U, ad, sl, S, ds, sl1, S1, s, e1, fun ad1 H1 vs s1 n1 r1 x dx hx hdx hne => ?_⟩
    rw [Option.map_eq_some_iff] at e2
    obtain ⟨⟨d2, S2⟩, e3, e4⟩ := e2
    cases e4
    obtain ⟨s2, x2⟩ := s1.enter
    refine sp_mk hc s2 (Reps.mono x2 (Reps.append r1 (hD _ _ _ _))) e3 hx hdx hne fun ad' H' v s3 n3 r3 ev => ?_
    obtain ⟨s4, n4, x4⟩ := s1.back s3 n3
    exact q _ H' v s4 (n1.trans n4) (r3.mono x4)
  · obtain ⟨U, ad, sl, S, d, sl', S', s, e, q⟩ := h
    obtain ⟨ds, sl1, S1, e1, e2⟩ := mBind_some e
    refine ⟨U, ad, sl, S, ds, sl1, S1, s, e1, fun ad1 H1 vs s1 n1 r1 x dx hx hdx hne => ?_⟩
    rw [Option.map_eq_some_iff] at e2
    obtain ⟨⟨d2, S2⟩, e3, e4⟩ := e2
    cases e4
    unfold relF at e3
    split at e3
    · rename_i p e5
      obtain ⟨d5, S5⟩ := p
      obtain ⟨s2, x2⟩ := s1.enter
      refine sp_mk hc s2 (Reps.mono x2 (Reps.append r1 (hD _ _ _ _))) e5 hx hdx hne fun ad' H' v s3 n3 r3 ev => ?_
      obtain ⟨s6, n6, r6⟩ := rel_ok s3 n3 r3 e3
      obtain ⟨s4, n4, x4⟩ := s1.back s6 n6
      exact q _ H' v s4 (n1.trans n4) (r6.mono x4)
    · cases e3
theorem ee_mk (M : Mk X.K Cl f) (F : FnOk X.prog X.w X.K X.mg X.base CX k f fd ps (spOf (cf X) g)) (hr : Room (k + 1) X.A) (hg : Gl X x) (hm : X.mg x = some (.ref Cl)) (hb : Binds X.K fd ps ds) (hd : Vals dvs ds) (hD : Cst (cf X) dd dvs) (hx : CX = fun _ _ _ _ _ _ => False)
    (ha : EA X (e :: es) ma) (hdb : (x == ("__debug__" : Str)) = false := by decide) (he : starEach (e :: es) X.env = (false, eval e X.env) :: starEach es X.env := by rfl) (hpl : (backTo pos (starEach es X.env)).any (·.1) = false := by rfl) :
    EE X (.Call (.Name x p) (e :: es) [] pos) (mCall (mkK x g) dd ma) := pe_imp (pe_make (E := fun _ _ _ => True) M F hr hg hm hb hd (passes hx) ha hdb he hpl) fun _ _ _ q => tMake_of hD hm (.inl q)
theorem ee_mkF (M : Mk X.K Cl f) (F : FnOk X.prog X.w X.K X.mg X.base CX k f fd ps (spOf (cf X) g)) (hr : Room (k + 1) X.A) (hg : Gl X x) (hm : X.mg x = some (.ref Cl)) (hb : Binds X.K fd ps ds) (hd : Vals dvs ds) (hD : Cst (cf X) dd dvs) (hx : CX = fun _ _ _ _ _ _ => False)
    (ha : EA X (e :: es) ma) (hdb : (x == ("__debug__" : Str)) = false := by decide) (he : starEach (e :: es) X.env = (false, eval e X.env) :: starEach es X.env := by rfl) (hpl : (backTo pos (starEach es X.env)).any (·.1) = false := by rfl) :
    EE X (.Call (.Name x p) (e :: es) [] pos) (mCall (relF (mkK x g)) dd ma) := pe_imp (pe_make (E := fun _ _ _ => True) M F hr hg hm hb hd (passes hx) ha hdb he hpl) fun _ _ _ q => tMake_of hD hm (.inr q)
end
end PS

namespace PS
open PySem PySem.Spec PyProof.Rows L2

/-! ### writing -/
/-- the cell that an operand names -/
def cellR (sl : Sl) : Rf → Option Cell
  | .d (.loc n) => some (.inl n)
  | .sl i => match sl[i]? with
    | some (some (.own _)) => some (.inr i)
    | some (some (.val (.loc n))) => some (.inl n)
    | _ => none
  | _ => none
def setC (sl : Sl) (S : Sto) (c : Cell) (ob : Ob) : Sl × Sto := match c with
  | .inr i => (sl.set i (some (.own ob)), S)
  | .inl n => (sl, S.set n ob)
/-- the operand's object, and where it is -/
def obR (sl : Sl) (S : Sto) (r : Rf) : Option (Cell × Ob) := match cellR sl r with
  | some c => (objAt sl S c).map fun ob => (c, ob)
  | none => none
section
variable {C : Cf} {U W : Addr → Prop} {al : Nat → Addr} {N : Nat} {ad : Cell → Addr} {sl : Sl} {S : Sto} {σ : L2.St} {H : Hp}
theorem Sim.wrC (s : Sim C U ad sl S σ H) {c : Cell} {ob ob' : Ob} {ho : HO} (h : objAt sl S c = some ob) (hm : mtb ho) (hr : RepH C (Wr U ad sl S) (lc ad) S.length H (ad c) ob' ho) :
    Sim C U ad (setC sl S c ob').1 (setC sl S c ob').2 σ (upd H (ad c) ho) ∧ Nx U ad sl S H ad (setC sl S c ob').1 (setC sl S c ob').2 (upd H (ad c) ho) := by
  cases c with
  | inl n => exact s.wrS h hm hr
  | inr i =>
    simp only [objAt] at h
    split at h
    · rename_i ob0 q
      exact s.wrO q hm hr
    · cases h
theorem Sim.cellR (s : Sim C U ad sl S σ H) {r : Rf} {v : V} {c : Cell} (q : RepR C (Wr U ad sl S) (lc ad) S.length H σ r v) (h : PS.cellR sl r = some c) : v = .ref (ad c) := by
  cases q with
  | d q =>
    cases q with
    | loc hn => cases h; rfl
    | _ => cases h
  | @sl i v q =>
    simp only [PS.cellR] at h
    split at h
    · rename_i ob hs
      cases h
      obtain ⟨v', h1, h2⟩ := s.slt i _ hs
      rw [q] at h1; cases h1
      cases h2
      rfl
    · rename_i n hs
      cases h
      obtain ⟨v', h1, h2⟩ := s.slt i _ hs
      rw [q] at h1; cases h1
      cases h2 with
      | val r => cases r; rfl
    · cases h
theorem obR_some {r : Rf} {c : Cell} {ob : Ob} (h : obR sl S r = some (c, ob)) : PS.cellR sl r = some c ∧ objAt sl S c = some ob := by
  unfold obR at h
  split at h
  · rename_i c' e
    rw [Option.map_eq_some_iff] at h
    obtain ⟨ob', e2, e3⟩ := h
    cases e3
    exact ⟨e, e2⟩
  · cases h
/-- a write through an operand -/
theorem Sim.wrR (s : Sim C U ad sl S σ H) {r : Rf} {v : V} {c : Cell} {ob : Ob} (q : RepR C (Wr U ad sl S) (lc ad) S.length H σ r v) (h : obR sl S r = some (c, ob)) : v = .ref (ad c) ∧ ∃ ho, H (ad c) = some ho ∧ mtb ho ∧ RepH C (Wr U ad sl S) (lc ad) S.length H (ad c) ob ho ∧
    ∀ ob' ho', mtb ho' → RepH C (Wr U ad sl S) (lc ad) S.length H (ad c) ob' ho' → Sim C U ad (setC sl S c ob').1 (setC sl S c ob').2 σ (upd H (ad c) ho') ∧ Nx U ad sl S H ad (setC sl S c ob').1 (setC sl S c ob').2 (upd H (ad c) ho') := by
  obtain ⟨h1, h2⟩ := obR_some h
  obtain ⟨ho, q1, q2, q3⟩ := s.cel c ob h2
  exact ⟨s.cellR q h1, ho, q1, q2, q3, fun ob' ho' hm hr => s.wrC h2 hm hr⟩
end

/-! ### o[i] = v -/
def stO (r : Rf) (k v : D) (sl : Sl) (S : Sto) : Option (Sl × Sto) := match obR sl S r with
  | some (c, .lst ds) => match k with
    | .int i => (ixN ds.length i).map fun j => setC sl S c (.lst (ds.set j v))
    | _ => none
  | some (c, .dct t kvs) => if okKey t k = true ∧ kvs.length < sizeLine then some (setC sl S c (.dct t (dput kvs k v))) else none
  | _ => none
def gSb (mo : M Rf) (mi : M D) : MG := fun d sl S => match mo sl S with
  | some (r, sl1, S1) => match mi sl1 S1 with
    | some (k, sl2, S2) => stO r k d sl2 S2
    | none => none
  | none => none
section
variable {X : Cx}
theorem pset_or {t t' : TSet} (h : PSet X t) (h' : PSet X t') : PSet X (fun o i v H Q => t o i v H Q ∨ t' o i v H Q) := by
  intro pins s σ H o i v ov iv u Q I ro ri rv q
  rcases q with q | q
  · exact h pins s σ H o i v ov iv u Q I ro ri rv q
  · exact h' pins s σ H o i v ov iv u Q I ro ri rv q
def rSetN (X : Cx) : TSet := fun o i v H Q => ∃ a xs k ka, o = .ref a ∧ NDat X H a xs i k ka ∧ H a = some (dphi (cf X) a xs) ∧ xs.length < sizeLine ∧ ∀ u, RelV v u → Q (upd H a (dphi (cf X) a (storedH xs k ka u)))
theorem set_dN (hu : X.A.units + 64 < cLine) : PSet X (rSetN X) := by
  intro pins s σ H o i v ov iv u Q I ro ri rv h
  obtain ⟨a, xs, k, ka, rfl, nd, e, hl, q⟩ := h
  cases ro
  exact n_set hu I nd e hl ri fun s' I' => ⟨_, I', q u rv⟩
def rSetG (X : Cx) : TSet := fun o i v H Q => rSetL o i v H Q ∨ rSetD o i v H Q ∨ rSetN X o i v H Q
theorem set_G (hu : X.A.units + 64 < cLine) : PSet X (rSetG X) := pset_or set_list (pset_or (set_dict (by omega)) (set_dN hu))
variable {e o i : Expr} {mo : M Rf} {mi : M D} {pos : Pos}
theorem eg_sb (hu : X.A.units + 64 < cLine) (ho : ER X o mo) (hi : EE X i mi)
    (ha : ∀ v, assign (.Subscript o i pos) X.env v = (do
      let ov ← holding [v] (eval o X.env)
      let iv ← holding [v, ov] (eval i X.env)
      standAt pos
      holding [v, ov, iv] (setItem ov iv v)
      release [v, ov, iv] []) := by intro _; rfl) : EG X (.Subscript o i pos) [] (gSb mo mi) := pg_imp (pg_sub ho hi (set_G hu) ha) fun v σ H Q q => by
  obtain ⟨U, ad, sl, S, d, sl', S', s, r, e, k⟩ := q
  simp only [gSb] at e
  split at e
  · rename_i ro sl1 S1 e1
    refine ⟨U, ad, sl, S, ro, sl1, S1, s, e1, fun ad1 H1 ov s1 n1 r1 => ?_⟩
    split at e
    · rename_i kd sl2 S2 e2
      refine ⟨U, ad1, sl1, S1, kd, sl2, S2, s1, e2, fun ad2 H2 iv s2 n2 r2 => ?_⟩
      have r1' := rR_mono n2.ext r1
      have r' := Rep.mono (n1.trans n2).ext r
      unfold stO at e
      split at e
      · rename_i c ds hob
        obtain ⟨rfl, ho, q1, q2, q3, wr⟩ := s2.wrR r1' hob
        cases q3 with
        | lst rs =>
          rename_i vs
          cases kd <;> try (cases e; done)
          rename_i j
          rw [Option.map_eq_some_iff] at e
          obtain ⟨jn, e3, e4⟩ := e
          cases r2
          have hw := wr (.lst (ds.set jn d)) (.lst (vs.set jn v)) True.intro (.lst (rs.set jn r'))
          rw [e4] at hw
          refine .inl ⟨_, vs, j, jn, rfl, rfl, q1, by rw [← rs.length]; exact e3, ?_⟩
          exact k ad2 _ _ hw.1 ((n1.trans n2).trans hw.2) Ch.refl
      · rename_i c t kvs hob
        obtain ⟨rfl, ho, q1, q2, q3, wr⟩ := s2.wrR r1' hob
        split at e
        · rename_i hk
          have e4 := Option.some.inj e
          cases q3 with
          | @dctM _ _ ws rk =>
            have hk1 : (ky kd).isSome = true := hk.1
            obtain ⟨key, hkey⟩ := Option.isSome_iff_exists.mp hk1
            obtain rfl := rep_ky r2 hkey
            have hw := wr (.dct false (dput kvs kd d)) (.dK (putK ws key v)) True.intro (.dctM (rk.put hkey r'))
            rw [e4] at hw
            refine .inr (.inl ⟨_, _, rfl, DPut.k q1 (by rw [← rk.length]; exact hk.2), ?_⟩)
            exact k ad2 _ _ hw.1 ((n1.trans n2).trans hw.2) Ch.refl
          | dctN rk =>
            obtain ⟨kk, ka, rfl, hnk, nd⟩ := nat_of X (.inl q1) rk r2 hk.1
            refine .inr (.inr ⟨_, _, kk, ka, rfl, nd, q1, by rw [← rk.length]; exact hk.2, fun u ru => ?_⟩)
            have hw := wr (.dct true (dput kvs kd d)) (dphi (cf X) (ad2 c) (storedH _ kk ka u)) True.intro (.dctN (rk.put hnk r2 ru r'))
            rw [e4] at hw
            exact k ad2 _ _ hw.1 ((n1.trans n2).trans hw.2) Ch.refl
        · cases e
      · cases e
    · cases e
  · cases e
end

/-! ### attributes -/
def putFD (f : Str) (v : D) : List (Str × D) → List (Str × D)
  | [] => [(f, v)]
  | (g, x) :: r => if g = f then (g, v) :: r else (g, x) :: putFD f v r
section
variable {C : Cf} {W : Addr → Prop} {al : Nat → Addr} {N : Nat} {H : Hp}
theorem RepF.put {f : Str} {d : D} {v : V} (r : Rep C W al N H d v) : ∀ {fs : List (Str × D)} {gs : List (Str × V)}, RepF C W al N H fs gs → RepF C W al N H (putFD f d fs) (putF f v gs)
  | _, _, .nil => .cons r .nil
  | _, _, @RepF.cons _ _ _ _ _ g e w fs gs q t => by
    unfold putFD putF
    split
    · exact .cons r t
    · exact .cons q (RepF.put r t)
theorem RepF.length : ∀ {fs : List (Str × D)} {gs : List (Str × V)}, RepF C W al N H fs gs → fs.length = gs.length
  | _, _, .nil => rfl
  | _, _, .cons _ t => by rw [List.length_cons, List.length_cons, RepF.length t]
theorem RepF.look {f : Str} {d : D} : ∀ {fs : List (Str × D)} {gs : List (Str × V)}, RepF C W al N H fs gs → fs.lookup f = some d → ∃ v, gs.lookup f = some v ∧ Rep C W al N H d v
  | _, _, .nil, h => by cases h
  | _, _, @RepF.cons _ _ _ _ _ g e w fs gs q t, h => by
    rw [List.lookup_cons] at h ⊢
    split at h
    · cases h; exact ⟨w, rfl, q⟩
    · exact RepF.look t h
end
def mFl (c f : Str) (mo : M Rf) : M D := mBind mo fun r => fun sl S => match vw sl S r with
  | some (.ins c' fs) => if c' = c then (fs.lookup f).map fun d => (d, sl, S) else none
  | _ => none
def sFl (c f : Str) (mo : M Rf) (mv : M D) : MS := fun sl S => match mv sl S with
  | some (d, sl1, S1) => match mo sl1 S1 with
    | some (r, sl2, S2) => match obR sl2 S2 r with
      | some (cl, .ins c' fs) => if c' = c ∧ fs.length < 1000 then (let p := setC sl2 S2 cl (.ins c (putFD f d fs)); some (.nx, p.1, p.2)) else none
      | _ => none
    | none => none
  | none => none
section
variable {X : Cx} {e o : Expr} {c f : Str} {Cl : Addr} {mo : M Rf} {mv : M D} {pos pos' : Pos}
theorem ee_fl (ho : ER X o mo) (hc : X.mg c = some (.ref Cl)) (cl : Cls X.K Cl) (na : NoAttr X.K Cl f) (hb : attributeBase o f X.env (eval o X.env) = eval o X.env := by rfl) : EE X (.Attribute o f pos) (mFl c f mo) := pe_imp (pe_fld ho hb) fun σ H Q q => by
  refine tX_bind q fun U ad sl S r d sl' S' H1 v s rr e k => ?_
  split at e
  · rename_i c' fs hv
    split at e
    · rename_i hcc
      subst hcc
      rw [Option.map_eq_some_iff] at e
      obtain ⟨d0, e1, e2⟩ := e
      cases e2
      have rv := s.view rr hv
      cases rv with
      | ins h1 r1 =>
        cases r1 with
        | ins h2 r2 =>
          have h2' : X.mg c' = some _ := h2
          rw [hc] at h2'
          cases h2'
          obtain ⟨w, hw, rw'⟩ := r2.look e1
          exact ⟨_, _, _, _, w, rfl, h1, cl, na, hw, k ad H1 w s Nx.refl rw'⟩
    · cases e
  · cases e
theorem es_fl {value : Expr} (ho : ER X o mo) (hv : EE X value mv) (hc : X.mg c = some (.ref Cl)) (cl : Cls X.K Cl) (na : NoAttr X.K Cl f) (hs : swapsWith value (some (.Attribute o f pos')) pos.line X.env = pure false := by rfl) : ES X (.Assign [.Attribute o f pos'] value pos) (sFl c f mo mv) := ps_imp (ps_fld ho hv hs) fun D σ H q => by
  obtain ⟨U, ad, sl, S, fl, sl', S', s, e, k⟩ := q
  unfold sFl at e
  split at e
  · rename_i d sl1 S1 e1
    refine ⟨U, ad, sl, S, d, sl1, S1, s, e1, fun ad1 H1 v s1 n1 r1 => ?_⟩
    split at e
    · rename_i r sl2 S2 e2
      refine ⟨U, ad1, sl1, S1, r, sl2, S2, s1, e2, fun ad2 H2 ov s2 n2 r2 => ?_⟩
      split at e
      · rename_i cc c' fs hob
        split at e
        · rename_i hh
          obtain ⟨rfl, hl⟩ := hh
          cases e
          obtain ⟨rfl, hx, q1, q2, q3, wr⟩ := s2.wrR r2 hob
          cases q3 with
          | @ins _ _ _ K dx gs h2 rf =>
            have h2' : X.mg c' = some _ := h2
            rw [hc] at h2'
            cases h2'
            have hw := wr (.ins c' (putFD f d fs)) (.ins Cl dx (putF f v gs)) True.intro (.ins h2 (RepF.put (Rep.mono n2.ext r1) rf))
            exact ⟨_, _, _, _, rfl, q1, cl, na, by rw [← rf.length]; exact hl, k ad2 _ σ hw.1 ((n1.trans n2).trans hw.2)⟩
        · cases e
      · cases e
    · cases e
  · cases e
end

/-! ### methods of built-in types -/
def TyAt (X : Cx) (H : Hp) (x : V) (T : String) : Prop := ∀ (pins : List (Addr × Obj)) (σ : L2.St) (s : Shared) (v : Value), Inv X pins σ H s → RelV x v → s.TypeIs v T ∧ ∀ a, v = .ref a → ∃ ob, s.heap.get? a = some ob ∧ ob.dict = none
theorem tyAt_lst {X : Cx} {H : Hp} {a : Addr} {vs : List V} (h : SqL X.K H a vs) : TyAt X H (.ref a) "list" := fun pins σ s v I r => tyV_is (T := "list") I r (.inl ⟨rfl, vs, h⟩)
theorem tyAt_str {X : Cx} {H : Hp} {x : Str} : TyAt X H (.str x) "str" := fun pins σ s v I r => tyV_is (T := "str") I r rfl
theorem tyAt_dM {X : Cx} {H : Hp} {a : Addr} {ws : List (Key × V)} (h : Rd H a (.dK ws)) : TyAt X H (.ref a) "dict" := fun pins σ s v I r => by
  cases r
  obtain ⟨_, _, vs, _, dd⟩ := dk_rd I.hok h
  refine ⟨dd.typeIs, fun b q => ?_⟩
  cases q
  exact dd.mapOf.noDict _ rfl
theorem tyAt_dN {X : Cx} {H : Hp} {a : Addr} {xs : List (NestedKey × Addr × Value)} (h : Rd H a (dphi (cf X) a xs)) : TyAt X H (.ref a) "dict" := fun pins σ s v I r => by
  cases r
  obtain ⟨⟨_, _, _, o, es, ep, h3, h4, _⟩, _, _⟩ := h.ok I.hok
  refine ⟨⟨o, h3, h4.1⟩, fun b e => ?_⟩
  cases e
  exact ⟨o, h3, h4.2.1⟩
/-- the method `name` as what is looked at has it -/
structure MtAt (X : Cx) (name : Str) (T id : String) : Prop where
  pa : PlainAttrs T
  slot : Slot T name id
  ty : typeOf (.builtin id) = pure (.type "method_descriptor")
def tBX (X : Cx) (name : Str) (to : TE) (t : TA) : TE := fun σ H Q => to σ H fun x H1 => ∃ T id r, MtAt X name T id ∧ MtR X id r ∧ TyAt X H1 x T ∧ t σ H1 fun xs H2 => r x xs H2 Q
section
variable {X : Cx} {o e : Expr} {es : List Expr} {to : TE} {t : TA} {name : Str} {apos cpos : Pos}
theorem pe_bmX0 (ho : PE X o to) (hbase : attributeBase o name X.env (eval o X.env) = eval o X.env := by rfl) (hline : (apos.endLine == cpos.line) = true := by rfl) : PE X (.Call (.Attribute o name apos) [] [] cpos) (tBX X name to tNil) := by
  refine ⟨fun pins s σ H Q I h => ?_⟩
  refine wpAny_Call_method0_late hbase hline (thn (ho.run pins s σ H _ I h) fun v s1 ⟨x, H1, I1, r1, T, id, r, ma, hm, ty, q1⟩ => ?_)
  obtain ⟨h1, h2⟩ := ty _ _ _ _ I1 r1
  exact ⟨T, id, ma.pa, ma.slot, ma.ty, h1, h2, Calls.callWith_builtin rfl (PySem.evalArgs_none (hm pins s1 σ H1 x [] v [] Q I1 r1 .nil q1))⟩
theorem pe_bmX (ho : PE X o to) (ha : PA X (e :: es) t) (hbase : attributeBase o name X.env (eval o X.env) = eval o X.env := by rfl)
    (hfew : ((backTo cpos (starEach (e :: es) X.env)).all (fun x => !x.1) && (backToKw cpos (keywordEach [] X.env)).all (fun x => x.1.isSome)
      && decide ((e :: es).length + ([] : List Keyword).length + (if ([] : List Keyword).isEmpty then 0 else 1) < 30)) = true := by rfl)
    (hline : (apos.endLine == cpos.line) = true := by rfl) (hs : starEach (e :: es) X.env = (false, eval e X.env) :: starEach es X.env := by rfl) (hplain : (backTo cpos (starEach es X.env)).any (·.1) = false := by rfl) :
    PE X (.Call (.Attribute o name apos) (e :: es) [] cpos) (tBX X name to t) := by
  refine ⟨fun pins s σ H Q I h => ?_⟩
  refine wpAny_Call_method_late hbase hfew hline rfl (thn (ho.run pins s σ H _ I h) fun v s1 ⟨x, H1, I1, r1, T, id, r, ma, hm, ty, q1⟩ => ?_)
  obtain ⟨h1, h2⟩ := ty _ _ _ _ I1 r1
  refine ⟨T, id, ma.pa, ma.slot, ma.ty, h1, h2, ?_⟩
  have hA := ha.run cpos pins s1 σ H1 _ I1 q1
  rw [hs] at hA ⊢
  refine Calls.callWith_builtin (by show (false || (backTo cpos (starEach es X.env)).any (·.1)) = false; rw [hplain] <;> rfl) (Calls.evalArgs_plain ?_)
  exact thn hA fun us s2 ⟨vs, H2, I2, r2, q2⟩ => hm pins s2 σ H2 x vs v us Q I2 r1 r2 q2
end
/-- a method's working: the receiver, the arguments -/
abbrev FM := Rf → List D → Sl → Sto → Option (D × Sl × Sto)
def mMt (kd : D → Bool) (f : FM) (mr : M Rf) (ma : M (List D)) : M D := mBind mr fun r => fun sl S => match vw sl S r with
  | some d => if kd d = true then mBind ma (fun ds => f r ds) sl S else none
  | none => none
/-- f is what the method does -/
structure MtS (X : Cx) (name : Str) (kd : D → Bool) (f : FM) : Prop where
  at_ : ∀ (W : Addr → Prop) (al : Nat → Addr) (N : Nat) (H : Hp) (d : D) (x : V), kd d = true → RepV (cf X) W al N H d x → ∃ T id r, MtAt X name T id ∧ MtR X id r ∧ TyAt X H x T ∧
    ∀ (U : Addr → Prop) (ad : Cell → Addr) (sl : Sl) (S : Sto) (σ : L2.St) (H2 : Hp) (ro : Rf) (ds : List D) (vs : List V) (y : D) (sl' : Sl) (S' : Sto) (Q : VK), Sim (cf X) U ad sl S σ H2 → RepR (cf X) (Wr U ad sl S) (lc ad) S.length H2 σ ro x → Reps (cf X) (Wr U ad sl S) (lc ad) S.length H2 ds vs →
      f ro ds sl S = some (y, sl', S') → tY rD (cf X) U ad sl S H2 y sl' S' σ Q → r x vs H2 Q
section
variable {X : Cx} {o e : Expr} {es : List Expr} {name : Str} {apos cpos : Pos} {kd : D → Bool} {f : FM} {mr : M Rf} {ma : M (List D)}
theorem tBX_of (F : MtS X name kd f) {σ : L2.St} {H : Hp} {Q : VK} (h : tX rD (cf X) (mMt kd f mr ma) σ H Q) : tBX X name (tX rR (cf X) mr) (tX rL (cf X) ma) σ H Q := by
  refine tX_bind h fun U ad sl S r d sl' S' H1 x s rr e k => ?_
  split at e
  · rename_i d0 hv
    split at e
    · rename_i hk
      obtain ⟨T, id, rl, h1, h2, h3, h4⟩ := F.at_ _ _ _ _ _ _ hk (s.view rr hv)
      refine ⟨T, id, rl, h1, h2, h3, ?_⟩
      obtain ⟨ds, sl1, S1, e1, e2⟩ := mBind_some e
      refine ⟨U, ad, sl, S, ds, sl1, S1, s, e1, fun ad1 H2 vs s1 n1 r1 => ?_⟩
      exact h4 U ad1 sl1 S1 σ H2 r ds vs d sl' S' Q s1 (rR_mono n1.ext rr) r1 e2 fun ad2 H3 y s2 n2 r2 => k ad2 H3 y s2 (n1.trans n2) r2
    · cases e
  · cases e
theorem ee_mt (F : MtS X name kd f) (ho : ER X o mr) (ha : EA X (e :: es) ma) (hbase : attributeBase o name X.env (eval o X.env) = eval o X.env := by rfl)
    (hfew : ((backTo cpos (starEach (e :: es) X.env)).all (fun x => !x.1) && (backToKw cpos (keywordEach [] X.env)).all (fun x => x.1.isSome)
      && decide ((e :: es).length + ([] : List Keyword).length + (if ([] : List Keyword).isEmpty then 0 else 1) < 30)) = true := by rfl)
    (hline : (apos.endLine == cpos.line) = true := by rfl) (hs : starEach (e :: es) X.env = (false, eval e X.env) :: starEach es X.env := by rfl) (hplain : (backTo cpos (starEach es X.env)).any (·.1) = false := by rfl) :
    EE X (.Call (.Attribute o name apos) (e :: es) [] cpos) (mMt kd f mr ma) := pe_imp (pe_bmX ho ha hbase hfew hline hs hplain) fun _ _ _ q => tBX_of F q
theorem ee_mt0 (F : MtS X name kd f) (ho : ER X o mr) (hbase : attributeBase o name X.env (eval o X.env) = eval o X.env := by rfl) (hline : (apos.endLine == cpos.line) = true := by rfl) : EE X (.Call (.Attribute o name apos) [] [] cpos) (mMt kd f mr aN) := pe_imp (pe_bmX0 ho hbase hline) fun σ H Q q => by
  have z := tBX_of F q
  obtain ⟨U, ad, sl, S, r, sl', S', s, e, k⟩ := z
  refine ⟨U, ad, sl, S, r, sl', S', s, e, fun ad1 H1 v s1 n1 r1 => ?_⟩
  obtain ⟨T, id, rl, h1, h2, h3, h4⟩ := k ad1 H1 v s1 n1 r1
  refine ⟨T, id, rl, h1, h2, h3, ?_⟩
  obtain ⟨U, ad, sl, S, d, sl', S', s, e, q⟩ := h4
  cases e
  exact q ad H1 [] s Nx.refl .nil
end

/-! ### lists -/
def kL : D → Bool
  | .lst _ => true
  | _ => false
def kD : D → Bool
  | .dct _ _ => true
  | _ => false
section
variable {X : Cx}
theorem mt_mk {name : Str} {id : String} {f : FM} {kd : D → Bool} {T : String} (ma : MtAt X name T id) (ht : ∀ (W : Addr → Prop) (al : Nat → Addr) (N : Nat) (H : Hp) (d : D) (x : V), kd d = true → RepV (cf X) W al N H d x → TyAt X H x T) {r : V → List V → Hp → VK → Prop} (hm : MtR X id r)
    (hf : ∀ (U : Addr → Prop) (ad : Cell → Addr) (sl : Sl) (S : Sto) (σ : L2.St) (H2 : Hp) (ro : Rf) (x : V) (ds : List D) (vs : List V) (y : D) (sl' : Sl) (S' : Sto) (Q : VK), Sim (cf X) U ad sl S σ H2 → RepR (cf X) (Wr U ad sl S) (lc ad) S.length H2 σ ro x → Reps (cf X) (Wr U ad sl S) (lc ad) S.length H2 ds vs →
      f ro ds sl S = some (y, sl', S') → tY rD (cf X) U ad sl S H2 y sl' S' σ Q → r x vs H2 Q) : MtS X name kd f :=
  ⟨fun W al N H d x hk rv => ⟨T, id, r, ma, hm, ht W al N H d x hk rv, fun U ad sl S σ H2 ro ds vs y sl' S' Q s rr rs e k => hf U ad sl S σ H2 ro x ds vs y sl' S' Q s rr rs e k⟩⟩
theorem ty_kL (W : Addr → Prop) (al : Nat → Addr) (N : Nat) (H : Hp) (d : D) (x : V) (hk : kL d = true) (rv : RepV (cf X) W al N H d x) : TyAt X H x "list" := by
  cases rv with
  | lst h r => exact tyAt_lst h
  | _ => cases hk
theorem ty_kD (W : Addr → Prop) (al : Nat → Addr) (N : Nat) (H : Hp) (d : D) (x : V) (hk : kD d = true) (rv : RepV (cf X) W al N H d x) : TyAt X H x "dict" := by
  cases rv with
  | dct h r =>
    cases r with
    | dctM r => exact tyAt_dM h
    | dctN r => exact tyAt_dN h
  | _ => cases hk
def fAppend : FM := fun r ds sl S => match obR sl S r, ds with
  | some (c, .lst es), [d] => if es.length < sizeLine then (let p := setC sl S c (.lst (es ++ [d])); some (.non, p.1, p.2)) else none
  | _, _ => none
theorem ms_append : MtS X "append" kL fAppend := mt_mk (T := "list") (id := "list.append") ⟨F.plainAttrs_list, F.slot_list_append, rfl⟩ ty_kL mt_append fun U ad sl S σ H ro x ds vs y sl' S' Q s rr rs e k => by
  unfold fAppend at e
  split at e
  · rename_i c es d hob
    split at e
    · rename_i hl
      cases e
      obtain ⟨rfl, ho, q1, q2, q3, wr⟩ := s.wrR rr hob
      cases q3 with
      | lst re =>
        cases rs with
        | cons rd rs =>
          cases rs
          have hw := wr (.lst (es ++ [d])) (.lst _) True.intro (.lst (re.append (.cons rd .nil)))
          exact ⟨_, _, _, rfl, rfl, q1, by rw [← re.length]; exact hl, k ad _ _ hw.1 hw.2 .non⟩
    · cases e
  · cases e
theorem list_extendW (l : Addr) (items : Array Value) (n : Nat) (b : Addr) (items2 : Array Value) (n2 : Nat) (dd2 : Option Addr) (sl2 : Array (Option Value)) (hc0 : ¬(!items.isEmpty && Builtin.List.listTooLong (items.size + items2.size)) = true) (hc1 : items.size ≤ sizeLine) (hs2 : items.size + items2.size ≤ sizeLine + 1) :
    Meets (Builtin.«list.extend» ⟨[.ref l, .ref b], []⟩) (fun _ R s => s.heap.get? l = some { cls := .type "list", dict := none, data := .seq items n, slots := #[] } ∧ s.heap.get? b = some { cls := .type "list", dict := dd2, data := .seq items2 n2, slots := sl2 } ∧ R (.ok (.ret Value.none)) { s with heap := s.heap.update l (Obj.mapSeq fun x => x ++ items2), toks := s.toks }) :=
  .of_wp fun prog w A R s h => by
    obtain ⟨hp, g, d, tk, os⟩ := s
    obtain ⟨hl, hb, h⟩ := h
    have f1 := AutoSeq1.idx_int
    have f2 := AutoSeq1.sub_tuple_tuple
    have f3 := AutoSeq1.sub_list_list
    have f4 := AutoSeq1.sub_tuple_list
    have f5 := AutoSeq1.sub_list_tuple
    have hz' : (items ++ items2).size ≤ sizeLine + 1 := by rw [Array.size_append]; exact hs2
    wp_walk using (wpAny_updateSeq hl rfl (hz := hc1) (_hz' := hz')), AutoSeq1.wpAny_loadPart' hl, AutoSeq1.wpAny_loadPart' hb
    exact ⟨_, rfl, h⟩
/-- xs.extend(ys), ys a list of the same kind -/
def rExtG (K : PySem.W.Frag) : V → List V → Hp → VK → Prop := fun x vs H Q => ∃ l b xs zs, x = .ref l ∧ vs = [.ref b] ∧ H l = some (.lst xs) ∧ (Rd H b (.lst zs) ∨ KLst K b zs) ∧ xs.length + zs.length ≤ sizeLine ∧ Q .non (upd H l (.lst (xs ++ zs)))
theorem mt_extG : MtR X "list.extend" (rExtG X.K) := by
  intro pins s σ H x vs v us Q I rx rv h
  obtain ⟨l, b, xs, zs, rfl, rfl, hH, hB, hz, q⟩ := h
  cases rx
  obtain ⟨u, rfl, ru⟩ := rv.one
  cases ru
  obtain ⟨z, its, n, r, hl, e⟩ := I.lstM hH
  have hB' : ∃ (its2 : List Value) (n2 : Nat) (dd2 : Option Addr) (sl2 : Array (Option Value)), Vals zs its2 ∧ s.heap.get? b = some { cls := .type "list", dict := dd2, data := .seq its2.toArray n2, slots := sl2 } := by
    rcases hB with hB | ⟨o, its2, n2, hk, hc, hd, hda, hs, hv⟩
    · obtain ⟨z2, its2, n2, r2, e2⟩ := (show ObjOk X.prog X.w H s.heap b (.lst zs) from hB.ok I.hok)
      exact ⟨its2, n2, _, _, r2, e2⟩
    · refine ⟨its2.toList, n2, o.dict, o.slots, hv, ?_⟩
      rw [I.kIn b o hk]
      obtain ⟨oc, od, odt, osl⟩ := o
      cases hc; cases hda
      rfl
  obtain ⟨its2, n2, dd2, sl2, r2, e2⟩ := hB'
  have hl2 := r2.length
  have hsz : its.toArray.size + its2.toArray.size ≤ sizeLine := by rw [List.size_toArray, List.size_toArray]; omega
  have hlong : ¬ (!its.toArray.isEmpty && Builtin.List.listTooLong (its.toArray.size + its2.toArray.size)) = true := by
    rw [notLongL hsz, Bool.and_false]
    exact Bool.false_ne_true
  refine call_meets F.slot_list_extend ⟨_, e, rfl⟩ F.entry_list_extend (F.args_list_extend_2 _ _)
    (list_extendW l its.toArray n b its2.toArray n2 dd2 sl2 hlong (by rw [List.size_toArray]; omega) (by omega)) ⟨e, e2, ?_⟩
  refine ⟨.non, _, I.lset (its' := its ++ its2) hH e (by simp) (r.append r2) ?_, rfl, q⟩
  rw [List.length_append]
  omega
def fExtend : FM := fun r ds sl S => match obR sl S r, ds with
  | some (c, .lst es), [.lst zs] => if es.length + zs.length ≤ sizeLine then (let p := setC sl S c (.lst (es ++ zs)); some (.non, p.1, p.2)) else none
  | _, _ => none
theorem ms_extend : MtS X "extend" kL fExtend := mt_mk (T := "list") (id := "list.extend") ⟨F.plainAttrs_list, F.slot_list_extend, rfl⟩ ty_kL mt_extG fun U ad sl S σ H ro x ds vs y sl' S' Q s rr rs e k => by
  unfold fExtend at e
  split at e
  · rename_i c es zs hob
    split at e
    · rename_i hl
      cases e
      obtain ⟨rfl, ho, q1, q2, q3, wr⟩ := s.wrR rr hob
      cases q3 with
      | lst re =>
        cases rs with
        | cons rd rs =>
          cases rs
          cases rd with
          | lst w h1 r1 =>
            cases r1 with
            | lst r1 =>
              have hw := wr (.lst (es ++ zs)) (.lst _) True.intro (.lst (re.append r1))
              exact ⟨_, _, _, _, rfl, rfl, q1, .inl h1, by rw [← re.length, ← r1.length]; exact hl, k ad _ _ hw.1 hw.2 .non⟩
          | klst h1 r1 =>
            have hw := wr (.lst (es ++ zs)) (.lst _) True.intro (.lst (re.append r1))
            exact ⟨_, _, _, _, rfl, rfl, q1, .inr h1, by rw [← re.length, ← r1.length]; exact hl, k ad _ _ hw.1 hw.2 .non⟩
    · cases e
  · cases e
theorem Reps.dropLast' {C : Cf} {W : Addr → Prop} {al : Nat → Addr} {N : Nat} {H : Hp} : ∀ {ds : List D} {vs : List V}, Reps C W al N H ds vs → Reps C W al N H ds.dropLast vs.dropLast := fun {ds vs} r => by
  rw [List.dropLast_eq_take, List.dropLast_eq_take, ← r.length]
  exact r.take _
def fPop : FM := fun r ds sl S => match obR sl S r, ds with
  | some (c, .lst es), [] => match es[es.length - 1]? with
    | some d => (let p := setC sl S c (.lst es.dropLast); some (d, p.1, p.2))
    | none => none
  | _, _ => none
theorem ms_pop : MtS X "pop" kL fPop := mt_mk (T := "list") (id := "list.pop") ⟨F.plainAttrs_list, F.slot_list_pop, rfl⟩ ty_kL mt_pop fun U ad sl S σ H ro x ds vs y sl' S' Q s rr rs e k => by
  unfold fPop at e
  split at e
  · rename_i c es hob
    split at e
    · rename_i d hd
      cases e
      obtain ⟨rfl, ho, q1, q2, q3, wr⟩ := s.wrR rr hob
      cases q3 with
      | lst re =>
        cases rs
        obtain ⟨v, hv, rv⟩ := re.get hd
        have hw := wr (.lst es.dropLast) (.lst _) True.intro (.lst re.dropLast')
        exact ⟨_, _, v, rfl, rfl, q1, by rw [← re.length]; exact hv, k ad _ _ hw.1 hw.2 (Rep.mono hw.2.ext rv)⟩
    · cases e
  · cases e
theorem Reps.erase {C : Cf} {W : Addr → Prop} {al : Nat → Addr} {N : Nat} {H : Hp} : ∀ {ds : List D} {vs : List V} (i : Nat), Reps C W al N H ds vs → Reps C W al N H (ds.eraseIdx i) (vs.eraseIdx i)
  | _, _, _, .nil => .nil
  | _, _, 0, .cons _ t => t
  | _, _, i + 1, .cons r t => .cons r (Reps.erase i t)
def fPopAt : FM := fun r ds sl S => match obR sl S r, ds with
  | some (c, .lst es), [.int i] => match ixN es.length i with
    | some j => match es[j]? with
      | some d => if bd i = true then (let p := setC sl S c (.lst (es.eraseIdx j)); some (d, p.1, p.2)) else none
      | none => none
    | none => none
  | _, _ => none
theorem ms_popAt : MtS X "pop" kL fPopAt := mt_mk (T := "list") (id := "list.pop") ⟨F.plainAttrs_list, F.slot_list_pop, rfl⟩ ty_kL mt_popAt fun U ad sl S σ H ro x ds vs y sl' S' Q s rr rs e k => by
  unfold fPopAt at e
  split at e
  · rename_i c es i hob
    split at e
    · rename_i j hj
      split at e
      · rename_i d hd
        split at e
        · rename_i hb
          cases e
          obtain ⟨rfl, ho, q1, q2, q3, wr⟩ := s.wrR rr hob
          cases q3 with
          | lst re =>
            obtain ⟨b1, b2⟩ := bd_of hb
            obtain ⟨v, hv, rv⟩ := re.get hd
            have ev : vs = [.int i] := reps1 rs
            have hw := wr (.lst (es.eraseIdx j)) (.lst _) True.intro (.lst (re.erase j))
            exact ⟨_, _, i, j, v, rfl, ev, q1, by omega, by omega, by rw [← re.length]; exact (ixN_seq hj).1, hv, k ad _ _ hw.1 hw.2 (Rep.mono hw.2.ext rv)⟩
        · cases e
      · cases e
    · cases e
  · cases e
def fInsert : FM := fun r ds sl S => match obR sl S r, ds with
  | some (c, .lst es), [.int i, d] => if es.length < sizeLine ∧ 0 ≤ i ∧ i < 2 ^ 62 then (let p := setC sl S c (.lst (es.take i.toNat ++ [d] ++ es.drop i.toNat)); some (.non, p.1, p.2)) else none
  | _, _ => none
theorem ms_insert : MtS X "insert" kL fInsert := mt_mk (T := "list") (id := "list.insert") ⟨F.plainAttrs_list, F.slot_list_insert, rfl⟩ ty_kL mt_insert fun U ad sl S σ H ro x ds vs y sl' S' Q s rr rs e k => by
  unfold fInsert at e
  split at e
  · rename_i c es i d hob
    split at e
    · rename_i hh
      cases e
      obtain ⟨rfl, ho, q1, q2, q3, wr⟩ := s.wrR rr hob
      cases q3 with
      | lst re =>
        cases rs with
        | cons r0 rs =>
          cases r0
          cases rs with
          | cons rd rs =>
            cases rs
            have hw := wr (.lst (es.take i.toNat ++ [d] ++ es.drop i.toNat)) (.lst _) True.intro (.lst (((re.take i.toNat).append (.cons rd .nil)).append (re.drop i.toNat)))
            exact ⟨_, _, i, _, rfl, rfl, q1, by rw [← re.length]; exact hh.1, hh.2.1, by omega, k ad _ _ hw.1 hw.2 .non⟩
    · cases e
  · cases e
end

/-! ### dicts -/
section
variable {X : Cx}
/-- d.get(k), d.get(k, x) -/
def rGet1 (X : Cx) : V → List V → Hp → VK → Prop := fun x vs H Q => ∃ a y, x = .ref a ∧ vs = [y] ∧ ((∃ o, DGet H a y o ∧ Q (o.getD .non) H) ∨ ∃ xs k ka, NDat X H a xs y k ka ∧ ∀ w, RelV w (((atKey xs k).map (·.2)).getD .none) → Q w H)
def rGet2 (X : Cx) : V → List V → Hp → VK → Prop := fun x vs H Q => ∃ a y z, x = .ref a ∧ vs = [y, z] ∧ ((∃ o, DGet H a y o ∧ Q (o.getD z) H) ∨ ∃ xs k ka, NDat X H a xs y k ka ∧ ∀ u, RelV z u → ∃ w, RelV w (((atKey xs k).map (·.2)).getD u) ∧ Q w H)
theorem mt_get2 (hu : X.A.units + 64 < cLine) : MtR X "dict.get" (rGet2 X) := by
  intro pins s σ H x vs v us Q I rx rv h
  obtain ⟨a, y, z, rfl, rfl, h⟩ := h
  cases rx
  obtain ⟨u1, u2, rfl, r1, r2⟩ := rv.two
  rcases h with ⟨o, g, q⟩ | ⟨xs, k, ka, nd, q⟩
  · exact d_get2 (by omega) I g r1 r2 fun w' s' I' rw' => ⟨_, H, I', rw', q⟩
  · obtain ⟨w, rw', q⟩ := q u2 r2
    exact n_get2 hu I nd r1 fun s' I' => ⟨w, H, I', rw', q⟩
def fGet2 : FM := fun r ds sl S => match vw sl S r, ds with
  | some (.dct t kvs), [k, x] => if okKey t k = true then some ((dlk kvs k).getD x, sl, S) else none
  | _, _ => none
theorem dlk_get {C : Cf} {W : Addr → Prop} {al : Nat → Addr} {N : Nat} {H : Hp} {o : Option D} {p : Option V} {d : D} {v : V} (h : RepOp C W al N H o p) (r : Rep C W al N H d v) : Rep C W al N H (o.getD d) (p.getD v) := by
  cases o <;> cases p <;> first | exact r | exact h | exact False.elim h
theorem ms_get2 (hu : X.A.units + 64 < cLine) : MtS X "get" kD fGet2 := mt_mk (T := "dict") (id := "dict.get") ⟨F.plainAttrs_dict, F.slot_dict_get, rfl⟩ ty_kD (mt_get2 hu) fun U ad sl S σ H ro x ds vs y sl' S' Q s rr rs e k => by
  unfold fGet2 at e
  split at e
  · rename_i t kvs kd xd hv
    split at e
    · rename_i hk
      cases e
      cases rs with
      | cons rk rs =>
        cases rs with
        | cons rx rs =>
          cases rs
          rename_i kv xv
          have rvw := s.view rr hv
          cases rvw with
          | @dct a _ _ ho hr rh =>
            refine ⟨a, kv, xv, rfl, rfl, ?_⟩
            cases rh with
            | @dctM _ _ ws rm =>
              have hk1 : (ky kd).isSome = true := hk
              obtain ⟨key, hkey⟩ := Option.isSome_iff_exists.mp hk1
              obtain rfl := rep_ky rk hkey
              exact .inl ⟨_, .inl ⟨ws, key, hr, rfl, rfl⟩, k ad H _ s Nx.refl (dlk_get (rm.look hkey) rx)⟩
            | @dctN _ _ xs rn =>
              obtain ⟨kk, ka, rfl, hnk, nd⟩ := nat_of X hr rn rk hk
              refine .inr ⟨xs, kk, ka, nd, fun u ru => ?_⟩
              have z := rn.look hnk
              cases h1 : dlk kvs kd with
              | none =>
                rw [h1] at z
                cases h2 : (atKey xs kk).map (·.2) with
                | none => exact ⟨xv, ru, k ad H _ s Nx.refl (by rw [h1]; exact rx)⟩
                | some u' => rw [h2] at z; exact False.elim z
              | some d' =>
                rw [h1] at z
                cases h2 : (atKey xs kk).map (·.2) with
                | none => rw [h2] at z; exact False.elim z
                | some u' =>
                  rw [h2] at z
                  obtain ⟨w, rw', rw2⟩ := z
                  exact ⟨w, rw', k ad H _ s Nx.refl (by rw [h1]; exact rw2)⟩
    · cases e
  · cases e
/-- d.setdefault(k, x) -/
def rSetdef (X : Cx) : V → List V → Hp → VK → Prop := fun x vs H Q => ∃ a y z, x = .ref a ∧ vs = [y, z] ∧ ((∃ ws k, y = kV k ∧ H a = some (.dK ws) ∧ ws.length < sizeLine ∧ (∀ v, valV ws k = some v → Q v H) ∧ (valV ws k = none → Q z (upd H a (.dK (putK ws k z))))) ∨
  ∃ xs k ka, NDat X H a xs y k ka ∧ H a = some (dphi (cf X) a xs) ∧ xs.length < sizeLine ∧ (∀ p, atKey xs k = some p → ∃ w, RelV w p.2 ∧ Q w H) ∧ (atKey xs k = none → ∀ u, RelV z u → Q z (upd H a (dphi (cf X) a (storedH xs k ka u)))))
theorem mt_setdef (hu : X.A.units + 64 < cLine) : MtR X "dict.setdefault" (rSetdef X) := by
  intro pins s σ H x vs v us Q I rx rv h
  obtain ⟨a, y, z, rfl, rfl, h⟩ := h
  cases rx
  obtain ⟨u1, u2, rfl, r1, r2⟩ := rv.two
  rcases h with ⟨ws, k, rfl, e, hl, q1, q2⟩ | ⟨xs, k, ka, nd, e, hl, q1, q2⟩
  · exact d_setd I e r1 r2 hl (fun v hv w' s' I' rw' => ⟨v, H, I', rw', q1 v hv⟩) fun hn w' s' I' rw' => ⟨z, _, I', rw', q2 hn⟩
  · exact n_setdefault hu I nd e hl r1 (fun p s' hp I' => let ⟨w, rw', q⟩ := q1 p hp; ⟨w, H, I', rw', q⟩) fun s' hn I' => ⟨z, _, I', r2, q2 hn u2 r2⟩
def fSetdef : FM := fun r ds sl S => match obR sl S r, ds with
  | some (c, .dct t kvs), [k, x] => if okKey t k = true ∧ kvs.length < sizeLine then (match dlk kvs k with
    | some d => some (d, sl, S)
    | none => (let p := setC sl S c (.dct t (dput kvs k x)); some (x, p.1, p.2))) else none
  | _, _ => none
theorem ms_setdef (hu : X.A.units + 64 < cLine) : MtS X "setdefault" kD fSetdef := mt_mk (T := "dict") (id := "dict.setdefault") ⟨F.plainAttrs_dict, F.slot_dict_setdefault, rfl⟩ ty_kD (mt_setdef hu) fun U ad sl S σ H ro x ds vs y sl' S' Q s rr rs e k => by
  unfold fSetdef at e
  split at e
  · rename_i c t kvs kd xd hob
    split at e
    · rename_i hk
      obtain ⟨rfl, ho, q1, q2, q3, wr⟩ := s.wrR rr hob
      cases rs with
      | cons rk rs =>
        cases rs with
        | cons rx rs =>
          cases rs
          rename_i kv xv
          refine ⟨ad c, kv, xv, rfl, rfl, ?_⟩
          cases q3 with
          | @dctM _ _ ws rm =>
            have hk1 : (ky kd).isSome = true := hk.1
            obtain ⟨key, hkey⟩ := Option.isSome_iff_exists.mp hk1
            obtain rfl := rep_ky rk hkey
            refine .inl ⟨ws, key, rfl, q1, by rw [← rm.length]; exact hk.2, fun w hw => ?_, fun hn => ?_⟩
            · have z := rm.look hkey
              rw [hw] at z
              split at e
              · rename_i d hd
                cases e
                rw [hd] at z
                exact k ad H w s Nx.refl z
              · rename_i hd
                rw [hd] at z
                exact False.elim z
            · have z := rm.look hkey
              rw [hn] at z
              split at e
              · rename_i d hd
                rw [hd] at z
                exact False.elim z
              · cases e
                have hw := wr (.dct false (dput kvs kd y)) (.dK (putK ws key xv)) True.intro (.dctM (rm.put hkey rx))
                exact k ad _ _ hw.1 hw.2 (Rep.mono hw.2.ext rx)
          | @dctN _ _ xs rn =>
            obtain ⟨kk, ka, rfl, hnk, nd⟩ := nat_of X (.inl q1) rn rk hk.1
            have z := rn.look hnk
            refine .inr ⟨xs, kk, ka, nd, q1, by rw [← rn.length]; exact hk.2, fun p hp => ?_, fun hn u ru => ?_⟩
            · rw [hp] at z
              split at e
              · rename_i d hd
                cases e
                rw [hd] at z
                obtain ⟨w, rw', rw2⟩ := z
                exact ⟨w, rw', k ad H w s Nx.refl rw2⟩
              · rename_i hd
                rw [hd] at z
                exact False.elim z
            · rw [hn] at z
              split at e
              · rename_i d hd
                rw [hd] at z
                exact False.elim z
              · cases e
                have hw := wr (.dct true (dput kvs kd y)) (dphi (cf X) (ad c) (storedH xs kk ka u)) True.intro (.dctN (rn.put hnk rk ru rx))
                exact k ad _ _ hw.1 hw.2 (Rep.mono hw.2.ext rx)
    · cases e
  · cases e
end
end PS

namespace PS
open PySem PySem.Spec PyProof.Rows L2

/-! ### built-in functions: a value -/
abbrev FB := List Rf → Sl → Sto → Option D
abbrev FO := List Rf → Sl → Sto → Option Ob
def mCb (f : FB) (ma : M (List Rf)) : M D := mBind ma fun rs => fun sl S => (f rs sl S).map fun d => (d, sl, S)
def nCb (f : FO) (ma : M (List Rf)) : M Ob := mBind ma fun rs => fun sl S => (f rs sl S).map fun d => (d, sl, S)
def CbS (X : Cx) (fv : Value) (f : FB) : Prop := ∃ r, CallR X fv r ∧ ∀ (U : Addr → Prop) (ad : Cell → Addr) (sl : Sl) (S : Sto) (σ : L2.St) (H : Hp) (rs : List Rf) (vs : List V) (d : D) (Q : VK), Sim (cf X) U ad sl S σ H →
  RepRs (cf X) (Wr U ad sl S) (lc ad) S.length H σ rs vs → f rs sl S = some d → tY rD (cf X) U ad sl S H d sl S σ Q → r vs H Q
def CoS (X : Cx) (fv : Value) (f : FO) : Prop := ∃ r, CallR X fv r ∧ ∀ (U : Addr → Prop) (ad : Cell → Addr) (sl : Sl) (S : Sto) (σ : L2.St) (H : Hp) (rs : List Rf) (vs : List V) (ob : Ob) (Q : VK), Sim (cf X) U ad sl S σ H →
  RepRs (cf X) (Wr U ad sl S) (lc ad) S.length H σ rs vs → f rs sl S = some ob → (∀ p ho, H p = none → mtb ho → RepH (cf X) (Wr U ad sl S) (lc ad) S.length H p ob ho → Q (.ref p) (upd H p ho)) → r vs H Q
section
variable {X : Cx} {e : Expr} {es : List Expr} {id T : String} {x : Str} {p pos : Pos} {f : FB} {g : FO} {ma : M (List Rf)}
theorem tCB_of {fv : Value} {r : List V → Hp → VK → Prop} (hf : ∀ (U : Addr → Prop) (ad : Cell → Addr) (sl : Sl) (S : Sto) (σ : L2.St) (H : Hp) (rs : List Rf) (vs : List V) (d : D) (Q : VK), Sim (cf X) U ad sl S σ H →
  RepRs (cf X) (Wr U ad sl S) (lc ad) S.length H σ rs vs → f rs sl S = some d → tY rD (cf X) U ad sl S H d sl S σ Q → r vs H Q) {σ : L2.St} {H : Hp} {Q : VK} (h : tX rD (cf X) (mCb f ma) σ H Q) : tCB r (tX rRs (cf X) ma) σ H Q := by
  refine tX_bind h fun U ad sl S rs d sl' S' H1 vs s rr e k => ?_
  rw [Option.map_eq_some_iff] at e
  obtain ⟨d0, e1, e2⟩ := e
  cases e2
  exact hf U ad sl S σ H1 rs vs d Q s rr e1 k
theorem tCO_of {r : List V → Hp → VK → Prop} (hf : ∀ (U : Addr → Prop) (ad : Cell → Addr) (sl : Sl) (S : Sto) (σ : L2.St) (H : Hp) (rs : List Rf) (vs : List V) (ob : Ob) (Q : VK), Sim (cf X) U ad sl S σ H →
  RepRs (cf X) (Wr U ad sl S) (lc ad) S.length H σ rs vs → g rs sl S = some ob → (∀ p ho, H p = none → mtb ho → RepH (cf X) (Wr U ad sl S) (lc ad) S.length H p ob ho → Q (.ref p) (upd H p ho)) → r vs H Q) {σ : L2.St} {H : Hp} {Q : VK} (h : tN (cf X) (nCb g ma) σ H Q) : tCB r (tX rRs (cf X) ma) σ H Q := by
  obtain ⟨U, ad, sl, S, ob, sl', S', s, e, k⟩ := h
  obtain ⟨rs, sl1, S1, e1, e2⟩ := mBind_some e
  rw [Option.map_eq_some_iff] at e2
  obtain ⟨ob0, e3, e4⟩ := e2
  cases e4
  exact ⟨U, ad, sl, S, rs, _, _, s, e1, fun ad1 H1 vs s1 n1 r1 => hf U ad1 _ _ σ H1 rs vs ob Q s1 r1 e3 fun p ho hp hm hr => k ad1 H1 p ho s1 n1 hp hm hr⟩
theorem ee_cb (hf : CbS X (.builtin id) f) (hg : Gl X x) (hm : X.mg x = none) (ha : EB X (e :: es) ma) (hv : bootBuiltins x = some (.builtin id) := by rfl) (hn : x ≠ "__name__" := by decide) (hdb : (x == ("__debug__" : Str)) = false := by decide)
    (he : starEach (e :: es) X.env = (false, eval e X.env) :: starEach es X.env := by rfl) (hpl : (backTo pos (starEach es X.env)).any (·.1) = false := by rfl) : EE X (.Call (.Name x p) (e :: es) [] pos) (mCb f ma) :=
  let ⟨_, h1, h2⟩ := hf
  pe_imp (pe_callB h1 hg hm hv ha hn hdb he hpl) fun _ _ _ q => tCB_of (fv := .none) h2 q
theorem ee_cbT (hf : CbS X (.type T) f) (hg : Gl X x) (hm : X.mg x = none) (ha : EB X (e :: es) ma) (hv : bootBuiltins x = some (.type T) := by rfl) (hn : x ≠ "__name__" := by decide) (hdb : (x == ("__debug__" : Str)) = false := by decide)
    (he : starEach (e :: es) X.env = (false, eval e X.env) :: starEach es X.env := by rfl) (hpl : (backTo pos (starEach es X.env)).any (·.1) = false := by rfl) : EE X (.Call (.Name x p) (e :: es) [] pos) (mCb f ma) :=
  let ⟨_, h1, h2⟩ := hf
  pe_imp (pe_callTy h1 hg hm hv ha hn hdb he hpl) fun _ _ _ q => tCB_of (fv := .none) h2 q
theorem en_cb (hf : CoS X (.builtin id) g) (hg : Gl X x) (hm : X.mg x = none) (ha : EB X (e :: es) ma) (hv : bootBuiltins x = some (.builtin id) := by rfl) (hn : x ≠ "__name__" := by decide) (hdb : (x == ("__debug__" : Str)) = false := by decide)
    (he : starEach (e :: es) X.env = (false, eval e X.env) :: starEach es X.env := by rfl) (hpl : (backTo pos (starEach es X.env)).any (·.1) = false := by rfl) : EN X (.Call (.Name x p) (e :: es) [] pos) (nCb g ma) :=
  let ⟨_, h1, h2⟩ := hf
  pe_imp (pe_callB h1 hg hm hv ha hn hdb he hpl) fun _ _ _ q => tCO_of h2 q
theorem en_cbT (hf : CoS X (.type T) g) (hg : Gl X x) (hm : X.mg x = none) (ha : EB X (e :: es) ma) (hv : bootBuiltins x = some (.type T) := by rfl) (hn : x ≠ "__name__" := by decide) (hdb : (x == ("__debug__" : Str)) = false := by decide)
    (he : starEach (e :: es) X.env = (false, eval e X.env) :: starEach es X.env := by rfl) (hpl : (backTo pos (starEach es X.env)).any (·.1) = false := by rfl) : EN X (.Call (.Name x p) (e :: es) [] pos) (nCb g ma) :=
  let ⟨_, h1, h2⟩ := hf
  pe_imp (pe_callTy h1 hg hm hv ha hn hdb he hpl) fun _ _ _ q => tCO_of h2 q
end
theorem repRs1 {C : Cf} {W : Addr → Prop} {al : Nat → Addr} {N : Nat} {H : Hp} {σ : L2.St} {r : Rf} {vs : List V} (h : RepRs C W al N H σ [r] vs) : ∃ v, vs = [v] ∧ RepR C W al N H σ r v := by
  cases h with
  | cons h t => cases t; exact ⟨_, rfl, h⟩
theorem repRs2 {C : Cf} {W : Addr → Prop} {al : Nat → Addr} {N : Nat} {H : Hp} {σ : L2.St} {r q : Rf} {vs : List V} (h : RepRs C W al N H σ [r, q] vs) : ∃ v w, vs = [v, w] ∧ RepR C W al N H σ r v ∧ RepR C W al N H σ q w := by
  cases h with
  | cons h t =>
    obtain ⟨w, rfl, h2⟩ := repRs1 t
    exact ⟨_, w, rfl, h, h2⟩
def intsOf : List D → Option (List Int)
  | [] => some []
  | .int i :: ds => (intsOf ds).map (i :: ·)
  | _ => none
def blsOf : List D → Option (List Bool)
  | [] => some []
  | .bl i :: ds => (blsOf ds).map (i :: ·)
  | _ => none
section
variable {C : Cf} {W : Addr → Prop} {al : Nat → Addr} {N : Nat} {H : Hp}
theorem Reps.intsE : ∀ {ds : List D} {vs : List V} {ns : List Int}, Reps C W al N H ds vs → PS.intsOf ds = some ns → vs = ns.map V.int
  | _, _, _, .nil, h => by cases h; rfl
  | _, _, _, @Reps.cons _ _ _ _ _ d v ds vs r t, h => by
    cases r <;> try (cases h; done)
    rw [PS.intsOf, Option.map_eq_some_iff] at h
    obtain ⟨ms, h1, rfl⟩ := h
    rw [Reps.intsE t h1]; rfl
theorem Reps.blsE : ∀ {ds : List D} {vs : List V} {ns : List Bool}, Reps C W al N H ds vs → PS.blsOf ds = some ns → vs = ns.map V.bl
  | _, _, _, .nil, h => by cases h; rfl
  | _, _, _, @Reps.cons _ _ _ _ _ d v ds vs r t, h => by
    cases r <;> try (cases h; done)
    rw [PS.blsOf, Option.map_eq_some_iff] at h
    obtain ⟨ms, h1, rfl⟩ := h
    rw [Reps.blsE t h1]; rfl
end
def maxI : Int → List Int → Int
  | m, [] => m
  | m, x :: xs => maxI (if m < x then x else m) xs
def minI : Int → List Int → Int
  | m, [] => m
  | m, x :: xs => minI (if x < m then x else m) xs
theorem maxI_spec : ∀ (xs : List Int) (m : Int), (maxI m xs = m ∨ maxI m xs ∈ xs) ∧ m ≤ maxI m xs ∧ ∀ y ∈ xs, y ≤ maxI m xs
  | [], m => ⟨.inl rfl, Int.le_refl _, fun _ h => by simp at h⟩
  | x :: xs, m => by
    obtain ⟨h1, h2, h3⟩ := maxI_spec xs (if m < x then x else m)
    unfold maxI
    refine ⟨?_, ?_, fun y hy => ?_⟩
    · rcases h1 with h1 | h1
      · rw [h1]
        split
        · exact .inr (List.mem_cons_self ..)
        · exact .inl rfl
      · exact .inr (List.mem_cons_of_mem _ h1)
    · refine Int.le_trans ?_ h2
      split <;> omega
    · rcases List.mem_cons.mp hy with rfl | hy
      · refine Int.le_trans ?_ h2
        split <;> omega
      · exact h3 y hy
theorem minI_spec : ∀ (xs : List Int) (m : Int), (minI m xs = m ∨ minI m xs ∈ xs) ∧ minI m xs ≤ m ∧ ∀ y ∈ xs, minI m xs ≤ y
  | [], m => ⟨.inl rfl, Int.le_refl _, fun _ h => by simp at h⟩
  | x :: xs, m => by
    obtain ⟨h1, h2, h3⟩ := minI_spec xs (if x < m then x else m)
    unfold minI
    refine ⟨?_, ?_, fun y hy => ?_⟩
    · rcases h1 with h1 | h1
      · rw [h1]
        split
        · exact .inr (List.mem_cons_self ..)
        · exact .inl rfl
      · exact .inr (List.mem_cons_of_mem _ h1)
    · refine Int.le_trans h2 ?_
      split <;> omega
    · rcases List.mem_cons.mp hy with rfl | hy
      · refine Int.le_trans h2 ?_
        split <;> omega
      · exact h3 y hy
section
variable {X : Cx}
/-! #### len -/
def rLenD (X : Cx) : List V → Hp → VK → Prop := fun xs H Q => (∃ a ws, xs = [.ref a] ∧ Rd H a (.dK ws) ∧ Q (.int ws.length) H) ∨ ∃ a ws W al N kvs, xs = [.ref a] ∧ Rd H a (dphi (cf X) a ws) ∧ RepKN (cf X) W al N H kvs ws ∧ Q (.int ws.length) H
theorem call_lenDD : CallR X (.builtin "len") (rLenD X) := by
  intro pins s σ H xs us Q I r h
  rcases h with ⟨a, ws, rfl, hr, q⟩ | ⟨a, ws, W, al, N, kvs, rfl, hr, rk, q⟩
  · obtain ⟨u, rfl, rx⟩ := vals1 r
    cases rx
    exact d_len I hr fun t s' I' => ⟨.int ws.length, H, I', ⟨t, rfl⟩, q⟩
  · obtain ⟨u, rfl, rx⟩ := vals1 r
    cases rx
    obtain ⟨lo, z, dd⟩ := dn_of I hr rk
    exact call_len_dictH lo dd (by rw [sizeLine_eq] at z; omega) ⟨.int ws.length, H, I.tok _, ⟨_, rfl⟩, q⟩
def gLen : FB := fun rs sl S => match rs with
  | [r] => match vw sl S r with
    | some (.lst ds) => some (.int ds.length)
    | some (.tup ds) => some (.int ds.length)
    | some (.dct _ kvs) => some (.int kvs.length)
    | some (.str x) => if x.length ≤ sizeLine then some (.int x.length) else none
    | _ => none
  | _ => none
theorem cb_len : CbS X (.builtin "len") gLen := ⟨_, CallR.or call_len call_lenDD, fun U ad sl S σ H rs vs d Q s rr e k => by
  unfold gLen at e
  split at e
  · rename_i r
    obtain ⟨v, rfl, r1⟩ := repRs1 rr
    split at e
    · rename_i ds hv
      cases e
      cases s.view r1 hv with
      | lst h r => exact .inl ⟨_, _, rfl, .inl ⟨_, h, rfl⟩, fin0 s (by rw [← r.length]; exact k) (.int _)⟩
    · rename_i ds hv
      cases e
      cases s.view r1 hv with
      | tup h r _ => exact .inl ⟨_, _, rfl, .inr ⟨_, h, rfl⟩, fin0 s (by rw [← r.length]; exact k) (.int _)⟩
    · rename_i t kvs hv
      cases e
      cases s.view r1 hv with
      | dct h r =>
        cases r with
        | dctM r => exact .inr (.inl ⟨_, _, rfl, h, fin0 s (by rw [← r.length]; exact k) (.int _)⟩)
        | dctN r => exact .inr (.inr ⟨_, _, _, _, _, _, rfl, h, r, fin0 s (by rw [← r.length]; exact k) (.int _)⟩)
    · rename_i x hv
      split at e
      · rename_i hl
        cases e
        cases s.view r1 hv with
        | str => exact .inl ⟨_, _, rfl, ⟨hl, rfl⟩, fin0 s k (.int _)⟩
      · cases e
    · cases e
  · cases e⟩
/-! #### int, abs, max, min of ints -/
def gInt : FB := fun rs sl S => match rs with
  | [r] => match vw sl S r with
    | some (.int i) => some (.int i)
    | some (.bl b) => some (.int (if b then 1 else 0))
    | _ => none
  | _ => none
theorem cb_int : CbS X (.type "int") gInt := ⟨_, call_int1, fun U ad sl S σ H rs vs d Q s rr e k => by
  unfold gInt at e
  split at e
  · rename_i r
    obtain ⟨v, rfl, r1⟩ := repRs1 rr
    split at e
    · rename_i i hv
      cases e
      cases s.view r1 hv with
      | int => exact .inl ⟨i, rfl, fin0 s k (.int _)⟩
    · rename_i b hv
      cases e
      cases s.view r1 hv with
      | bl => exact .inr ⟨b, rfl, fin0 s k (.int _)⟩
    · cases e
  · cases e⟩
def gAbs : FB := fun rs sl S => match rs with
  | [r] => match vw sl S r with
    | some (.int i) => some (.int (if i < 0 then -i else i))
    | _ => none
  | _ => none
theorem cb_abs : CbS X (.builtin "abs") gAbs := ⟨_, call_abs, fun U ad sl S σ H rs vs d Q s rr e k => by
  unfold gAbs at e
  split at e
  · rename_i r
    obtain ⟨v, rfl, r1⟩ := repRs1 rr
    split at e
    · rename_i i hv
      cases e
      cases s.view r1 hv with
      | int => exact ⟨i, rfl, fin0 s k (.int _)⟩
    · cases e
  · cases e⟩
def gMax2 : FB := fun rs sl S => match rs with
  | [r, q] => match vw sl S r, vw sl S q with
    | some (.int i), some (.int j) => some (.int (if j > i then j else i))
    | _, _ => none
  | _ => none
theorem cb_max2 (hc : X.calm = true) : CbS X (.builtin "max") gMax2 := ⟨_, call_max2 hc, fun U ad sl S σ H rs vs d Q s rr e k => by
  unfold gMax2 at e
  split at e
  · rename_i r q
    obtain ⟨v, w, rfl, r1, r2⟩ := repRs2 rr
    split at e
    · rename_i i j hv hw
      cases e
      cases s.view r1 hv with
      | int => cases s.view r2 hw with
        | int => exact ⟨i, j, rfl, fin0 s k (.int _)⟩
    · cases e
  · cases e⟩
def gMin2 : FB := fun rs sl S => match rs with
  | [r, q] => match vw sl S r, vw sl S q with
    | some (.int i), some (.int j) => some (.int (if j < i then j else i))
    | _, _ => none
  | _ => none
theorem cb_min2 (hc : X.calm = true) : CbS X (.builtin "min") gMin2 := ⟨_, call_min2 hc, fun U ad sl S σ H rs vs d Q s rr e k => by
  unfold gMin2 at e
  split at e
  · rename_i r q
    obtain ⟨v, w, rfl, r1, r2⟩ := repRs2 rr
    split at e
    · rename_i i j hv hw
      cases e
      cases s.view r1 hv with
      | int => cases s.view r2 hw with
        | int => exact ⟨i, j, rfl, fin0 s k (.int _)⟩
    · cases e
  · cases e⟩
/-- what is looked at, as a list's items -/
def lsV (sl : Sl) (S : Sto) (r : Rf) : Option (List D) := match vw sl S r with
  | some (.lst ds) => some ds
  | _ => none
theorem lsV_rep {C : Cf} {U : Addr → Prop} {ad : Cell → Addr} {sl : Sl} {S : Sto} {σ : L2.St} {H : Hp} {r : Rf} {v : V} {ds : List D} (s : Sim C U ad sl S σ H) (q : RepR C (Wr U ad sl S) (lc ad) S.length H σ r v) (h : lsV sl S r = some ds) :
    ∃ a vs, v = .ref a ∧ SqL C.K H a vs ∧ Reps C (Wr U ad sl S) (lc ad) S.length H ds vs := by
  unfold lsV at h
  split at h
  · rename_i ds' hv
    cases h
    cases s.view q hv with
    | lst h r => exact ⟨_, _, rfl, h, r⟩
  · cases h
def gSum : FB := fun rs sl S => match rs with
  | [r] => match (lsV sl S r).bind intsOf with
    | some ns => some (.int ns.sum)
    | none => none
  | _ => none
theorem bind_some2 {α β : Type} {o : Option α} {f : α → Option β} {b : β} (h : o.bind f = some b) : ∃ a, o = some a ∧ f a = some b := by
  cases o with
  | none => cases h
  | some a => exact ⟨a, rfl, h⟩
theorem cb_sum (hc : X.calm = true) : CbS X (.builtin "sum") gSum := ⟨_, cr_sum hc, fun U ad sl S σ H rs vs d Q s rr e k => by
  unfold gSum at e
  split at e
  · rename_i r
    obtain ⟨v, rfl, r1⟩ := repRs1 rr
    split at e
    · rename_i ns hv
      cases e
      obtain ⟨ds, h1, h2⟩ := bind_some2 hv
      obtain ⟨a, vs, rfl, hq, rp⟩ := lsV_rep s r1 h1
      have := rp.intsE h2
      subst this
      exact ⟨a, ns, rfl, hq, fin0 s k (.int _)⟩
    · cases e
  · cases e⟩
def gAll (any : Bool) : FB := fun rs sl S => match rs with
  | [r] => match (lsV sl S r).bind blsOf with
    | some ns => some (.bl (if any then ns.any id else ns.all id))
    | none => none
  | _ => none
theorem cb_all (hc : X.calm = true) : CbS X (.builtin "all") (gAll false) := ⟨_, cr_all hc, fun U ad sl S σ H rs vs d Q s rr e k => by
  unfold gAll at e
  split at e
  · rename_i r
    obtain ⟨v, rfl, r1⟩ := repRs1 rr
    split at e
    · rename_i ns hv
      cases e
      obtain ⟨ds, h1, h2⟩ := bind_some2 hv
      obtain ⟨a, vs, rfl, hq, rp⟩ := lsV_rep s r1 h1
      have := rp.blsE h2
      subst this
      exact ⟨a, ns, rfl, hq, fin0 s k (.bl _)⟩
    · cases e
  · cases e⟩
theorem cb_any (hc : X.calm = true) : CbS X (.builtin "any") (gAll true) := ⟨_, cr_any hc, fun U ad sl S σ H rs vs d Q s rr e k => by
  unfold gAll at e
  split at e
  · rename_i r
    obtain ⟨v, rfl, r1⟩ := repRs1 rr
    split at e
    · rename_i ns hv
      cases e
      obtain ⟨ds, h1, h2⟩ := bind_some2 hv
      obtain ⟨a, vs, rfl, hq, rp⟩ := lsV_rep s r1 h1
      have := rp.blsE h2
      subst this
      exact ⟨a, ns, rfl, hq, fin0 s k (.bl _)⟩
    · cases e
  · cases e⟩
def gReprB : FB := fun rs sl S => match rs with
  | [r] => match vw sl S r with
    | some (.bl b) => some (.str (if b then "True" else "False"))
    | _ => none
  | _ => none
theorem call_reprB : CallR X (.builtin "repr") (fun xs H Q => ∃ b : Bool, xs = [.bl b] ∧ Q (.str (if b then "True" else "False")) H) := by
  intro pins s σ H xs us Q I r h
  obtain ⟨b, rfl, q⟩ := h
  obtain ⟨u, rfl, rx⟩ := vals1 r
  obtain rfl : u = Value.bool b := rx
  exact PySem.P.repr_of_bool ⟨.str _, H, I.tok _, ⟨_, rfl⟩, q⟩
theorem cb_repr : CbS X (.builtin "repr") gReprB := ⟨_, call_reprB, fun U ad sl S σ H rs vs d Q s rr e k => by
  unfold gReprB at e
  split at e
  · rename_i r
    obtain ⟨v, rfl, r1⟩ := repRs1 rr
    split at e
    · rename_i b hv
      cases e
      cases s.view r1 hv with
      | bl => exact ⟨b, rfl, fin0 s k (.str _)⟩
    · cases e
  · cases e⟩

/-! #### isinstance -/
def rIsD (T : String) (f : PyData → Bool) (K : PySem.W.Frag) : List V → Hp → VK → Prop := fun xs H Q => ∃ x d, xs = [x, .ty T] ∧ Dp K H x d ∧ d.plain = true ∧ Q (.bl (f d)) H
def IsT (T : String) (f : PyData → Bool) : Prop := ∀ (prog : Program) (w : World) (A : Around) (s : Shared) (v : Value) (d : PyData) (as : List Addr) (Q : Value → Shared → Prop) (E : Value → Shared → Prop), Reads s.heap v d as → (∀ tk, s.toks ≤ tk → Q (.bool (f d)) { s with toks := tk }) → wpAny (model prog w) A (call (.builtin "isinstance") [v, .type T]) Q E s
theorem isT_int : IsT "int" PyData.isInt := fun _ _ _ _ _ _ _ _ _ r h => PySem.W.isinstance_int_data r h
theorem isT_bool : IsT "bool" PyData.isBool := fun _ _ _ _ _ _ _ _ _ r h => PySem.W.isinstance_bool_data r h
theorem isT_str : IsT "str" PyData.isStr := fun _ _ _ _ _ _ _ _ _ r h => PySem.W.isinstance_str_data r h
theorem isT_tuple : IsT "tuple" PyData.isTuple := fun _ _ _ _ _ _ _ _ _ r h => PySem.W.isinstance_tuple_data r h
theorem isT_list : IsT "list" PyData.isList := fun _ _ _ _ _ _ _ _ _ r h => PySem.W.isinstance_list_data r h
theorem call_isD {T : String} {f : PyData → Bool} (h : IsT T f) : CallR X (.builtin "isinstance") (rIsD T f X.K) := by
  intro pins s σ H xs us Q I r hh
  obtain ⟨x, d, rfl, hd, hp, q⟩ := hh
  obtain ⟨u, w', rfl, r1, r2⟩ := vals2 r
  obtain rfl : w' = Value.type T := r2
  obtain ⟨as, rd⟩ := Dp.reads I d x u hd r1
  exact h _ _ _ _ _ _ _ _ _ rd fun tk _ => ⟨.bl _, H, I.tok tk, rfl, q⟩
def mIs (f : PyData → Bool) (mr : M Rf) : M D := mBind mr fun r => fun sl S => match vw sl S r with
  | some d => if pl d = true then some (.bl (f (py d)), sl, S) else none
  | none => none
theorem ee_is {T : String} {f : PyData → Bool} {x : Str} {e : Expr} {mr : M Rf} {p p2 pos : Pos} (h : IsT T f) (hg : Gl X "isinstance") (hm : X.mg "isinstance" = none) (he : ER X e mr) (hg2 : Gl X x) (hm2 : X.mg x = none) (hv : bootBuiltins x = some (.type T) := by rfl)
    (hn : x ≠ "__name__" := by decide) (hd : (x == ("__debug__" : Str)) = false := by decide) (hs1 : starEach [e, .Name x p2] X.env = (false, eval e X.env) :: starEach [.Name x p2] X.env := by rfl) (hs2 : starEach [.Name x p2] X.env = (false, eval (.Name x p2) X.env) :: starEach [] X.env := by rfl)
    (hpl : (backTo pos (starEach [.Name x p2] X.env)).any (·.1) = false := by rfl) : EE X (.Call (.Name "isinstance" p) [e, .Name x p2] [] pos) (mIs f mr) :=
  pe_imp (pe_callB (call_isD h) hg hm (by rfl) (pa_cons he (pa_cons (pe_bltn (v := .ty T) hg2 hm2 hv rfl hn hd) pa_nil hs2) hs1) (by decide) (by decide) hs1 hpl) fun σ H Q q => by
    refine tX_bind q fun U ad sl S r d sl' S' H1 v s rr e k => ?_
    split at e
    · rename_i d0 hv0
      split at e
      · rename_i hp
        cases e
        exact ⟨v, py d0, rfl, (s.view rr hv0).dp hp, plain_py d0, fin0 s k (.bl _)⟩
      · cases e
    · cases e

/-! #### list(x), tuple(x) -/
def gList : FO := fun rs sl S => match rs with
  | [r] => match vw sl S r with
    | some (.lst ds) => some (.lst ds)
    | some (.tup ds) => some (.lst ds)
    | _ => none
  | _ => none
theorem co_list : CoS X (.type "list") gList := ⟨_, call_list_of, fun U ad sl S σ H rs vs ob Q s rr e k => by
  unfold gList at e
  split at e
  · rename_i r
    obtain ⟨v, rfl, r1⟩ := repRs1 rr
    split at e
    · rename_i ds hv
      cases e
      cases s.view r1 hv with
      | lst h r => exact ⟨_, _, rfl, .inl h, fun l hl => k l _ hl True.intro (.lst r)⟩
    · rename_i ds hv
      cases e
      cases s.view r1 hv with
      | tup h r _ => exact ⟨_, _, rfl, .inr h, fun l hl => k l _ hl True.intro (.lst r)⟩
    · cases e
  · cases e⟩
def gTuple : FB := fun rs sl S => match rs with
  | [r] => match vw sl S r with
    | some (.lst ds) => some (.tup ds)
    | some (.tup ds) => some (.tup ds)
    | _ => none
  | _ => none
theorem cb_tuple : CbS X (.type "tuple") gTuple := ⟨_, call_tupleF, fun U ad sl S σ H rs vs d Q s rr e k => by
  unfold gTuple at e
  split at e
  · rename_i r
    obtain ⟨v, rfl, r1⟩ := repRs1 rr
    split at e
    · rename_i ds hv
      cases e
      cases s.view r1 hv with
      | lst h r => exact ⟨_, _, rfl, .inl ⟨h, fun l o hl ho => finT s k r hl ho⟩⟩
    · rename_i ds hv
      cases e
      cases s.view r1 hv with
      | tup h r r0 => exact ⟨_, _, rfl, .inr ⟨h, fin0 s k r0⟩⟩
    · cases e
  · cases e⟩
end
end PS

namespace PS
open PySem PySem.Spec PyProof.Rows L2 PySem.SeqAt

/-! ### count, index, remove over plain data -/
def kT : D → Bool
  | .tup _ => true
  | _ => false
section
variable {X : Cx}
theorem tyAt_tup {W : Addr → Prop} {al : Nat → Addr} {N : Nat} {H : Hp} {ds : List D} {v : V} (r : Rep (cf X) W al N H (.tup ds) v) : TyAt X H v "tuple" := fun pins σ s u I ru => by
  cases r with
  | tup w h r =>
    obtain ⟨o, hd, e⟩ := h
    cases ru
    obtain ⟨e1, _, its, _, o', h1, h2, _⟩ := (show ObjOk X.prog X.w H s.heap _ (.frz o (.tup _)) from I.hok _ _ e)
    refine ⟨⟨o', h1, h2⟩, fun b eb => ?_⟩
    cases eb
    exact ⟨o, e1, hd⟩
  | ktup h r =>
    obtain ⟨o, its, n, hk, hc, _, _, _, hd⟩ := h
    cases ru
    refine ⟨⟨o, I.kIn _ o hk, hc⟩, fun b eb => ?_⟩
    cases eb
    exact ⟨o, I.kIn _ o hk, hd⟩
theorem ty_kT (W : Addr → Prop) (al : Nat → Addr) (N : Nat) (H : Hp) (d : D) (x : V) (hk : kT d = true) (rv : RepV (cf X) W al N H d x) : TyAt X H x "tuple" := by
  cases rv with
  | tup h r r0 => exact tyAt_tup r0
  | _ => cases hk
/-- the receiver's items -/
def itV (sl : Sl) (S : Sto) (r : Rf) : Option (Bool × List D) := match vw sl S r with
  | some (.lst ds) => some (false, ds)
  | some (.tup ds) => some (true, ds)
  | _ => none
def rFind (X : Cx) (tup : Bool) (g : List PyData → PyData → Option V) : V → List V → Hp → VK → Prop := fun x vs H Q => ∃ a y ws xs d v, x = .ref a ∧ vs = [y] ∧ (if tup then SqT X.K H a ws else SqL X.K H a ws) ∧ DpAll X.K H ws xs ∧ Dp X.K H y d ∧ PyData.plainAll xs = true ∧ d.plain = true ∧ d.depth ≤ 60 ∧ g xs d = some v ∧ Q v H
def gCnt (xs : List PyData) (d : PyData) : Option V := some (.int ((xs.countP fun y => PyData.eqv y d : Nat) : Int))
def idB (xs : List PyData) (d : PyData) : Option Nat := if true ∈ xs.map (fun y => PyData.eqv y d) then some ((xs.map fun y => PyData.eqv y d).idxOf true) else none
def gIdx (xs : List PyData) (d : PyData) : Option V := (idB xs d).map fun j => .int (j : Nat)
theorem itemsEq_data {A : Around} {s : Shared} {vs : List Value} {xs : List PyData} {x : Value} {d : PyData} {as bs : List Addr} (rs : ReadsAll s.heap vs xs as) (rx : Reads s.heap x d bs) (hxs : PyData.plainAll xs = true) (hd : d.plain = true)
    (hu : A.units + 1 + min (PyData.depthAll xs) d.depth < cLine) : ItemsEq A.in1 s vs (xs.map fun y => PyData.eqv y d) x true := by
  have rs' : ReadsAll s.heap vs.toArray.toList xs as := by simpa using rs
  have hl := len_at rs'
  rw [List.size_toArray] at hl
  refine ⟨by rw [List.length_map]; exact hl, fun j h1 h2 => ?_⟩
  have e := items_plain (A := A) (s := s) (vs := vs.toArray) rs' rx hxs hd hu vs[j] (by simp)
  obtain ⟨h3, e2⟩ := readOf_at rs' hxs j (by rw [List.size_toArray]; exact h1)
  rw [List.getElem_toArray] at e2
  rw [e2] at e
  refine e.cast ?_
  rw [List.getElem_map]
  cases PyData.eqv xs[j] d <;> rfl
theorem idB_some {xs : List PyData} {d : PyData} {j : Nat} (h : idB xs d = some j) : true ∈ xs.map (fun y => PyData.eqv y d) ∧ j = (xs.map fun y => PyData.eqv y d).idxOf true := by
  unfold idB at h
  split at h
  · exact ⟨by assumption, (Option.some.inj h).symm⟩
  · cases h
theorem mt_cntL (hu : X.A.units + 64 < cLine) : MtR X "list.count" (rFind X false gCnt) := by
  intro pins s σ H x vs v us Q I rx rv h
  obtain ⟨a, y, ws, xs, d, w, rfl, rfl, hs, hx, hy, px, pd, dd, hg, q⟩ := h
  cases rx
  obtain ⟨u, rfl, ru⟩ := rv.one
  cases hg
  obtain ⟨its, rv', pl, hz⟩ := I.list hs
  obtain ⟨as, r1⟩ := Dp.readsAll I xs ws its hx rv'
  obtain ⟨bs, r2⟩ := Dp.reads I d y u hy ru
  exact count_list_data pl.isList (by simpa using r1) r2 px pd (by omega) ⟨.int _, H, I.tok _, ⟨_, rfl⟩, q⟩
theorem mt_cntT (hu : X.A.units + 64 < cLine) : MtR X "tuple.count" (rFind X true gCnt) := by
  intro pins s σ H x vs v us Q I rx rv h
  obtain ⟨a, y, ws, xs, d, w, rfl, rfl, hs, hx, hy, px, pd, dd, hg, q⟩ := h
  cases rx
  obtain ⟨u, rfl, ru⟩ := rv.one
  cases hg
  obtain ⟨its, rv', pl, hz⟩ := I.tuple hs
  obtain ⟨as, r1⟩ := Dp.readsAll I xs ws its hx rv'
  obtain ⟨bs, r2⟩ := Dp.reads I d y u hy ru
  exact count_tuple_data (show s.heap.IsTuple a its.toArray from pl) (by simpa using r1) r2 px pd (by omega) ⟨.int _, H, I.tok _, ⟨_, rfl⟩, q⟩
theorem mt_idxL (hu : X.A.units + 64 < cLine) : MtR X "list.index" (rFind X false gIdx) := by
  intro pins s σ H x vs v us Q I rx rv h
  obtain ⟨a, y, ws, xs, d, w, rfl, rfl, hs, hx, hy, px, pd, dd, hg, q⟩ := h
  cases rx
  obtain ⟨u, rfl, ru⟩ := rv.one
  unfold gIdx at hg
  rw [Option.map_eq_some_iff] at hg
  obtain ⟨j, hj, rfl⟩ := hg
  obtain ⟨its, rv', pl, hz⟩ := I.list hs
  obtain ⟨as, r1⟩ := Dp.readsAll I xs ws its hx rv'
  obtain ⟨bs, r2⟩ := Dp.reads I d y u hy ru
  obtain ⟨h1, rfl⟩ := idB_some hj
  exact call_list_index pl.isList (itemsEq_data r1 r2 px pd (by omega)) (by
    have := rv'.length
    have z := ReadsAll.length _ _ _ r1
    rw [List.length_map]; omega) h1 ⟨.int _, H, I.tok _, ⟨_, rfl⟩, q⟩
theorem mt_idxT (hu : X.A.units + 64 < cLine) : MtR X "tuple.index" (rFind X true gIdx) := by
  intro pins s σ H x vs v us Q I rx rv h
  obtain ⟨a, y, ws, xs, d, w, rfl, rfl, hs, hx, hy, px, pd, dd, hg, q⟩ := h
  cases rx
  obtain ⟨u, rfl, ru⟩ := rv.one
  unfold gIdx at hg
  rw [Option.map_eq_some_iff] at hg
  obtain ⟨j, hj, rfl⟩ := hg
  obtain ⟨its, rv', pl, hz⟩ := I.tuple hs
  obtain ⟨as, r1⟩ := Dp.readsAll I xs ws its hx rv'
  obtain ⟨bs, r2⟩ := Dp.reads I d y u hy ru
  obtain ⟨h1, rfl⟩ := idB_some hj
  exact call_tuple_index (show s.heap.IsTuple a its.toArray from pl) (itemsEq_data r1 r2 px pd (by omega)) h1 ⟨.int _, H, I.tok _, ⟨_, rfl⟩, q⟩
def fFind (g : List PyData → PyData → Option Int) : FM := fun r ds sl S => match itV sl S r, ds with
  | some (_, es), [d] => if pls es = true ∧ pl d = true ∧ (py d).depth ≤ 60 then (g (pys es) (py d)).map fun i => (.int i, sl, S) else none
  | _, _ => none
def iCnt (xs : List PyData) (d : PyData) : Option Int := some ((xs.countP fun y => PyData.eqv y d : Nat) : Int)
def iIdx (xs : List PyData) (d : PyData) : Option Int := (idB xs d).map fun j => ((j : Nat) : Int)
theorem find_of {g : List PyData → PyData → Option Int} {g' : List PyData → PyData → Option V} (hg : ∀ xs d i, g xs d = some i → g' xs d = some (.int i)) {tup : Bool} {U : Addr → Prop} {ad : Cell → Addr} {sl : Sl} {S : Sto} {σ : L2.St} {H : Hp} {ro : Rf} {x : V} {ds : List D} {vs : List V} {y : D} {sl' : Sl} {S' : Sto} {Q : VK} (s : Sim (cf X) U ad sl S σ H)
    (rr : RepR (cf X) (Wr U ad sl S) (lc ad) S.length H σ ro x) (rs : Reps (cf X) (Wr U ad sl S) (lc ad) S.length H ds vs) (hk : ∀ b es, itV sl S ro = some (b, es) → b = tup) (e : fFind g ro ds sl S = some (y, sl', S')) (k : tY rD (cf X) U ad sl S H y sl' S' σ Q) : rFind X tup g' x vs H Q := by
  unfold fFind at e
  split at e
  · rename_i b es d hv
    split at e
    · rename_i hh
      rw [Option.map_eq_some_iff] at e
      obtain ⟨i, h1, h2⟩ := e
      cases h2
      have hb := hk _ _ hv
      subst hb
      cases rs with
      | cons rd rs =>
        cases rs
        unfold itV at hv
        split at hv
        · rename_i ds0 hvw
          cases hv
          cases s.view rr hvw with
          | lst h r => exact ⟨_, _, _, _, _, .int i, rfl, rfl, h, r.dp hh.1, rd.dp hh.2.1, plain_pys es, plain_py d, hh.2.2, hg _ _ _ h1, fin0 s k (.int _)⟩
        · rename_i ds0 hvw
          cases hv
          cases s.view rr hvw with
          | tup h r _ => exact ⟨_, _, _, _, _, .int i, rfl, rfl, h, r.dp hh.1, rd.dp hh.2.1, plain_pys es, plain_py d, hh.2.2, hg _ _ _ h1, fin0 s k (.int _)⟩
        · cases hv
    · cases e
  · cases e
theorem cnt_g {xs : List PyData} {d : PyData} {i : Int} (h : iCnt xs d = some i) : gCnt xs d = some (.int i) := by cases h; rfl
theorem idx_g {xs : List PyData} {d : PyData} {i : Int} (h : iIdx xs d = some i) : gIdx xs d = some (.int i) := by
  unfold iIdx at h
  unfold gIdx
  rw [Option.map_eq_some_iff] at h ⊢
  obtain ⟨j, h1, rfl⟩ := h
  exact ⟨j, h1, rfl⟩
end
/-- a receiver that is a list, or a tuple: the same working, two built-ins -/
def kLT : D → Bool
  | .lst _ => true
  | .tup _ => true
  | _ => false
/-- f, once the receiver is of the same kind still -/
def fSame (tup : Bool) (f : FM) : FM := fun r ds sl S => match itV sl S r with
  | some (b, _) => if b = tup then f r ds sl S else none
  | none => none
section
variable {X : Cx}
theorem same_of {tup : Bool} {f : FM} {r : Rf} {ds : List D} {sl : Sl} {S : Sto} {p : D × Sl × Sto} (h : fSame tup f r ds sl S = some p) : f r ds sl S = some p ∧ ∀ b es, itV sl S r = some (b, es) → b = tup := by
  unfold fSame at h
  split at h
  · rename_i b es e
    split at h
    · rename_i hb
      refine ⟨h, fun b' es' e' => ?_⟩
      rw [e] at e'
      cases e'
      exact hb
    · cases h
  · cases h
theorem ms_countL (hu : X.A.units + 64 < cLine) : MtS X "count" kL (fSame false (fFind iCnt)) := mt_mk (T := "list") (id := "list.count") ⟨F.plainAttrs_list, F.slot_list_count, rfl⟩ ty_kL (mt_cntL hu) fun U ad sl S σ H ro x ds vs y sl' S' Q s rr rs e k => by
  obtain ⟨e1, e2⟩ := same_of e
  exact find_of (fun _ _ _ h => cnt_g h) s rr rs e2 e1 k
theorem ms_countT (hu : X.A.units + 64 < cLine) : MtS X "count" kT (fSame true (fFind iCnt)) := mt_mk (T := "tuple") (id := "tuple.count") ⟨F.plainAttrs_tuple, F.slot_tuple_count, rfl⟩ ty_kT (mt_cntT hu) fun U ad sl S σ H ro x ds vs y sl' S' Q s rr rs e k => by
  obtain ⟨e1, e2⟩ := same_of e
  exact find_of (fun _ _ _ h => cnt_g h) s rr rs e2 e1 k
theorem ms_indexL (hu : X.A.units + 64 < cLine) : MtS X "index" kL (fSame false (fFind iIdx)) := mt_mk (T := "list") (id := "list.index") ⟨F.plainAttrs_list, F.slot_list_index, rfl⟩ ty_kL (mt_idxL hu) fun U ad sl S σ H ro x ds vs y sl' S' Q s rr rs e k => by
  obtain ⟨e1, e2⟩ := same_of e
  exact find_of (fun _ _ _ h => idx_g h) s rr rs e2 e1 k
theorem ms_indexT (hu : X.A.units + 64 < cLine) : MtS X "index" kT (fSame true (fFind iIdx)) := mt_mk (T := "tuple") (id := "tuple.index") ⟨F.plainAttrs_tuple, F.slot_tuple_index, rfl⟩ ty_kT (mt_idxT hu) fun U ad sl S σ H ro x ds vs y sl' S' Q s rr rs e k => by
  obtain ⟨e1, e2⟩ := same_of e
  exact find_of (fun _ _ _ h => idx_g h) s rr rs e2 e1 k
/-- two kinds of receivers -/
def mMt2 (k1 k2 : D → Bool) (f g : FM) (mr : M Rf) (ma : M (List D)) : M D := mBind mr fun r => fun sl S => match vw sl S r with
  | some d => if k1 d = true then mBind ma (fun ds => f r ds) sl S else if k2 d = true then mBind ma (fun ds => g r ds) sl S else none
  | none => none
theorem MtS.two {name : Str} {k1 k2 : D → Bool} {f g : FM} (F : MtS X name k1 f) (G : MtS X name k2 g) {σ : L2.St} {H : Hp} {Q : VK} {mr : M Rf} {ma : M (List D)} (h : tX rD (cf X) (mMt2 k1 k2 f g mr ma) σ H Q) : tBX X name (tX rR (cf X) mr) (tX rL (cf X) ma) σ H Q := by
  obtain ⟨U, ad, sl, S, d, sl', S', s, e, k⟩ := h
  obtain ⟨r, sl1, S1, e1, e2⟩ := mBind_some e
  split at e2
  · rename_i d0 hv
    split at e2
    · rename_i hk
      refine tBX_of F ⟨U, ad, sl, S, d, sl', S', s, ?_, k⟩
      unfold mMt mBind
      rw [e1]
      simp only [hv, hk, if_true]
      exact e2
    · split at e2
      · rename_i hk
        refine tBX_of G ⟨U, ad, sl, S, d, sl', S', s, ?_, k⟩
        unfold mMt mBind
        rw [e1]
        simp only [hv, hk, if_true]
        exact e2
      · cases e2
  · cases e2
theorem ee_mt2 {o e : Expr} {es : List Expr} {name : Str} {apos cpos : Pos} {k1 k2 : D → Bool} {f g : FM} {mr : M Rf} {ma : M (List D)} (F : MtS X name k1 f) (G : MtS X name k2 g) (ho : ER X o mr) (ha : EA X (e :: es) ma) (hbase : attributeBase o name X.env (eval o X.env) = eval o X.env := by rfl)
    (hfew : ((backTo cpos (starEach (e :: es) X.env)).all (fun x => !x.1) && (backToKw cpos (keywordEach [] X.env)).all (fun x => x.1.isSome)
      && decide ((e :: es).length + ([] : List Keyword).length + (if ([] : List Keyword).isEmpty then 0 else 1) < 30)) = true := by rfl)
    (hline : (apos.endLine == cpos.line) = true := by rfl) (hs : starEach (e :: es) X.env = (false, eval e X.env) :: starEach es X.env := by rfl) (hplain : (backTo cpos (starEach es X.env)).any (·.1) = false := by rfl) :
    EE X (.Call (.Attribute o name apos) (e :: es) [] cpos) (mMt2 k1 k2 f g mr ma) := pe_imp (pe_bmX ho ha hbase hfew hline hs hplain) fun _ _ _ q => MtS.two F G q
end

/-! ### min, max over data -/
mutual
def yp : PyData → D
  | .none => .non
  | .bool b => .bl b
  | .int i => .int i
  | .str x => .str x
  | .list xs => .lst (yps xs)
  | .tuple xs => .tup (yps xs)
  | _ => .non
def yps : List PyData → List D
  | [] => []
  | x :: xs => yp x :: yps xs
end
mutual
theorem yp_py : ∀ {d : D}, pl d = true → yp (py d) = d
  | .non, _ => rfl
  | .bl _, _ => rfl
  | .int _, _ => rfl
  | .str _, _ => rfl
  | .tup ds, h => by rw [py, yp, yps_pys (show pls ds = true from h)]
  | .lst ds, h => by rw [py, yp, yps_pys (show pls ds = true from h)]
  | .dct _ _, h => by cases h
  | .ins _ _, h => by cases h
  | .loc _, h => by cases h
  | .fn _, h => by cases h
  | .pr _, h => by cases h
theorem yps_pys : ∀ {ds : List D}, pls ds = true → yps (pys ds) = ds
  | [], _ => rfl
  | d :: ds, h => by
    rw [pls, Bool.and_eq_true] at h
    rw [pys, yps, yp_py h.1, yps_pys h.2]
end
open PySem.W in
/-- data that can be compared with one another -/
def alk (ds : List D) : Bool := pls ds && (pys ds).all (fun x => (pys ds).all fun y => alike x y)
def noN (ds : List D) : Bool := ds.all fun d => match d with
  | .non => false
  | _ => true
section
variable {X : Cx}
open PySem.W in
def rMM (X : Cx) (m : PyData → List PyData → PyData) : List V → Hp → VK → Prop := fun vs H Q => ∃ a ws x xs, vs = [.ref a] ∧ SqL X.K H a ws ∧ DpAll X.K H ws (x :: xs) ∧ PyData.plainAll (x :: xs) = true ∧ AlikeAll (x :: xs) ∧ PyData.depthAll (x :: xs) ≤ 60 ∧ ∀ (i : Nat) (v : V), ws[i]? = some v → (x :: xs)[i]? = some (m x xs) → Q v H
theorem dpAll_get {K : PySem.W.Frag} {H : Hp} : ∀ {ws : List V} {xs : List PyData} {i : Nat} {v : V}, DpAll K H ws xs → ws[i]? = some v → ∃ d, xs[i]? = some d ∧ Dp K H v d
  | _, _, _, _, .nil, e => by simp at e
  | _, _, 0, _, .cons r _, e => by simp at e; subst e; exact ⟨_, rfl, r⟩
  | _, _, i + 1, _, .cons _ t, e => by
    obtain ⟨d, h1, h2⟩ := dpAll_get (i := i) t (by simpa using e)
    exact ⟨d, by simpa using h1, h2⟩
theorem vals_get' : ∀ {ws : List V} {us : List Value} {i : Nat} {u : Value}, Vals ws us → us[i]? = some u → ∃ v, ws[i]? = some v ∧ RelV v u
  | _, _, _, _, .nil, e => by simp at e
  | _, _, 0, _, .cons r _, e => by simp at e; subst e; exact ⟨_, rfl, r⟩
  | _, _, i + 1, _, .cons _ t, e => by
    obtain ⟨d, h1, h2⟩ := vals_get' (i := i) t (by simpa using e)
    exact ⟨d, by simpa using h1, h2⟩
theorem plain_of {xs : List PyData} {i : Nat} {d : PyData} (h : PyData.plainAll xs = true) (e : xs[i]? = some d) : d.plain = true := PySem.W.plain_mem h (List.mem_of_getElem? e)
end
end PS

namespace PS
open PySem PySem.Spec PyProof.Rows L2 PySem.SeqAt
section
variable {X : Cx}
open PySem.W
theorem minD_mem : ∀ (xs : List PyData) (x : PyData), minD x xs ∈ x :: xs
  | [], x => List.mem_cons_self ..
  | y :: ys, x => by
    show List.foldl _ (if dataLt y x then y else x) ys ∈ _
    have h := minD_mem ys (if dataLt y x then y else x)
    unfold minD at h
    rcases List.mem_cons.mp h with h | h
    · rw [h]
      split
      · exact List.mem_cons_of_mem _ (List.mem_cons_self ..)
      · exact List.mem_cons_self ..
    · exact List.mem_cons_of_mem _ (List.mem_cons_of_mem _ h)
theorem maxD_mem : ∀ (xs : List PyData) (x : PyData), maxD x xs ∈ x :: xs
  | [], x => List.mem_cons_self ..
  | y :: ys, x => by
    show List.foldl _ (if dataLt x y then y else x) ys ∈ _
    have h := maxD_mem ys (if dataLt x y then y else x)
    unfold maxD at h
    rcases List.mem_cons.mp h with h | h
    · rw [h]
      split
      · exact List.mem_cons_of_mem _ (List.mem_cons_self ..)
      · exact List.mem_cons_self ..
    · exact List.mem_cons_of_mem _ (List.mem_cons_of_mem _ h)
theorem mm_end {pins : List (Addr × Obj)} {σ : L2.St} {H : Hp} {s : Shared} {Q : VK} {m : PyData → List PyData → PyData} (hm : ∀ xs x, m x xs ∈ x :: xs) {ws : List V} {x : PyData} {xs : List PyData} {its : List Value} {as : List Addr} (I : Inv X pins σ H s) (rv : Vals ws its) (hx : DpAll X.K H ws (x :: xs)) (px : PyData.plainAll (x :: xs) = true)
    (r1 : ReadsAll s.heap its (x :: xs) as) (q : ∀ (i : Nat) (v : V), ws[i]? = some v → (x :: xs)[i]? = some (m x xs) → Q v H) (i : Nat) (v : Value) (h' : Heap) (tk : Nat) (bs : List Addr) (hv : its.toArray[i]? = some v) (hr : Reads h' v (m x xs) bs) (hk : ∀ b o, s.heap.get? b = some o → h'.get? b = some o) : EP X pins σ Q v { s with heap := h', toks := tk } := by
  rw [← Array.getElem?_toList] at hv
  obtain ⟨wv, h1, h2⟩ := vals_get' rv hv
  obtain ⟨d, h3, h4⟩ := dpAll_get hx h1
  obtain ⟨as2, r2⟩ := Dp.reads I d wv v h4 h2
  have e1 := readOf_plain (plain_of px h3) (Reads.keeps hk r2)
  have e2 := readOf_plain (PySem.W.plain_mem px (hm xs x)) hr
  rw [e1] at e2
  subst e2
  exact ⟨wv, H, I.kept hk, h2, q i wv h1 h3⟩
theorem cr_minD (hc : X.calm = true) (hu : X.A.units + 64 < cLine) : CallR X (.builtin "min") (rMM X minD) := by
  intro pins s σ H vs us Q I r h
  obtain ⟨a, ws, x, xs, rfl, hs, hx, px, ha, hd, q⟩ := h
  obtain ⟨its, rv, hl, _⟩ := I.list hs
  rw [Vals.ref1 r]
  obtain ⟨as, r1⟩ := Dp.readsAll I _ ws its hx rv
  exact PySem.W.min_list_data (I.ok.hd hc) hl.isList (by simpa using r1) ha (by omega) fun i v h' tk bs hv hr hk => mm_end minD_mem I rv hx px r1 q i v h' tk bs hv hr hk
theorem cr_maxD (hc : X.calm = true) (hu : X.A.units + 64 < cLine) : CallR X (.builtin "max") (rMM X maxD) := by
  intro pins s σ H vs us Q I r h
  obtain ⟨a, ws, x, xs, rfl, hs, hx, px, ha, hd, q⟩ := h
  obtain ⟨its, rv, hl, _⟩ := I.list hs
  rw [Vals.ref1 r]
  obtain ⟨as, r1⟩ := Dp.readsAll I _ ws its hx rv
  exact PySem.W.max_list_data (I.ok.hd hc) hl.isList (by simpa using r1) ha (by omega) fun i v h' tk bs hv hr hk => mm_end maxD_mem I rv hx px r1 q i v h' tk bs hv hr hk
def gMM (m : PyData → List PyData → PyData) : FB := fun rs sl S => match rs with
  | [r] => match lsV sl S r with
    | some (d :: ds) => if alk (d :: ds) = true ∧ noN (d :: ds) = true ∧ PyData.depthAll (pys (d :: ds)) ≤ 60 then some (yp (m (py d) (pys ds))) else none
    | _ => none
  | _ => none
theorem pys_get : ∀ {ds : List D} {i : Nat} {x : PyData}, (pys ds)[i]? = some x → ∃ d, ds[i]? = some d ∧ py d = x
  | [], _, _, e => by simp [pys] at e
  | d :: ds, 0, x, e => by simp [pys] at e; exact ⟨d, rfl, e⟩
  | d :: ds, i + 1, x, e => by
    obtain ⟨d', h1, h2⟩ := pys_get (i := i) (ds := ds) (by simpa [pys] using e)
    exact ⟨d', by simpa using h1, h2⟩
theorem pls_get : ∀ {ds : List D} {i : Nat} {d : D}, pls ds = true → ds[i]? = some d → pl d = true
  | [], _, _, _, e => by simp at e
  | d :: ds, 0, x, h, e => by
    rw [pls, Bool.and_eq_true] at h
    simp at e; subst e; exact h.1
  | d :: ds, i + 1, x, h, e => by
    rw [pls, Bool.and_eq_true] at h
    exact pls_get (i := i) h.2 (by simpa using e)
theorem alk_of {ds : List D} (h : alk ds = true) : pls ds = true ∧ ∀ x ∈ pys ds, ∀ y ∈ pys ds, alike x y = true := by
  unfold alk at h
  rw [Bool.and_eq_true, List.all_eq_true] at h
  exact ⟨h.1, fun x hx y hy => List.all_eq_true.mp (h.2 x hx) y hy⟩
theorem noN_of {ds : List D} (hp : pls ds = true) (h : noN ds = true) : ∀ x ∈ pys ds, x ≠ .none := by
  intro x hx e
  obtain ⟨i, hi⟩ := List.mem_iff_getElem?.mp hx
  obtain ⟨d, h1, h2⟩ := pys_get hi
  have h3 := List.all_eq_true.mp h d (List.mem_of_getElem? h1)
  have h4 := pls_get hp h1
  rw [e] at h2
  cases d <;> first | (simp at h3; done) | (cases h4; done) | (simp [py] at h2; done)
theorem cb_mm {m : PyData → List PyData → PyData} {id : String} (hr : CallR X (.builtin id) (rMM X m)) : CbS X (.builtin id) (gMM m) := ⟨_, hr, fun U ad sl S σ H rs vs d Q s rr e k => by
  unfold gMM at e
  split at e
  · rename_i r
    obtain ⟨v, rfl, r1⟩ := repRs1 rr
    split at e
    · rename_i d0 ds hv
      split at e
      · rename_i hh
        cases e
        obtain ⟨a, ws, rfl, hq, rp⟩ := lsV_rep s r1 hv
        obtain ⟨hp, hal⟩ := alk_of hh.1
        refine ⟨a, ws, py d0, pys ds, rfl, hq, rp.dp hp, plain_pys (d0 :: ds), ⟨hal, noN_of hp hh.2.1⟩, hh.2.2, fun i w hw hi => ?_⟩
        obtain ⟨d1, h1, h2⟩ := rp.get' hw
        obtain ⟨d2, h3, h4⟩ := pys_get (ds := d0 :: ds) hi
        rw [h1] at h3
        cases h3
        rw [← h4, yp_py (pls_get hp h1)] at k
        exact fin0 s k h2
      · cases e
    · cases e
  · cases e⟩
theorem cb_minD (hc : X.calm = true) (hu : X.A.units + 64 < cLine) : CbS X (.builtin "min") (gMM minD) := cb_mm (cr_minD hc hu)
theorem cb_maxD (hc : X.calm = true) (hu : X.A.units + 64 < cLine) : CbS X (.builtin "max") (gMM maxD) := cb_mm (cr_maxD hc hu)

/-! ### sorted -/
def srtOk (ds : List PyData) : Bool := (ds.all fun d => match d with | .tuple (_ :: _) => true | _ => false) || (ds.all fun d => match d with | .none => false | .tuple _ => false | _ => true)
theorem srtOk_of {ds : List PyData} (h : srtOk ds = true) : Sortable ds := by
  unfold srtOk at h
  rw [Bool.or_eq_true, List.all_eq_true, List.all_eq_true] at h
  rcases h with h | h
  · refine .inl fun d hd => ?_
    have z := h d hd
    split at z
    · exact ⟨_, _, rfl⟩
    · cases z
  · refine .inr fun d hd => ?_
    have z := h d hd
    refine ⟨fun e => by rw [e] at z; simp at z, fun xs e => by rw [e] at z; simp at z⟩
/-- the items sorted, with their data -/
def srtV (ws : List V) (ds : List PyData) : List V := ((ws.zip ds).mergeSort (dataLe false fun p : V × PyData => p.2)).map (·.1)
/-- the values of an iterable, in order: a list, a dict's keys -/
def ItAt (X : Cx) (H : Hp) (a : Addr) (ws : List V) : Prop := SqL X.K H a ws ∨ (∃ kvs, Rd H a (.dK kvs) ∧ ws = kvs.map fun kv => kV kv.1) ∨ ∃ xs W al N kvs, Rd H a (dphi (cf X) a xs) ∧ RepKN (cf X) W al N H kvs xs ∧ ws = xs.map fun x => V.ref x.2.1
def rSrt (X : Cx) : List V → Hp → VK → Prop := fun vs H Q => ∃ a ws ds, vs = [.ref a] ∧ ItAt X H a ws ∧ ws.length ≤ sizeLine ∧ DpAll X.K H ws ds ∧ AllAlike ds ∧ Sortable ds ∧ (∀ d ∈ ds, d.depth ≤ 60) ∧ ∀ p, H p = none → Q (.ref p) (upd H p (.lst (srtV ws ds)))
theorem each_of {pins : List (Addr × Obj)} {σ : L2.St} {H : Hp} {s : Shared} (I : Inv X pins σ H s) : ∀ {ws : List V} {ds : List PyData} {us : List Value}, DpAll X.K H ws ds → Vals ws us → EachIs (fun (u : Value) (p : V × PyData) => RelV p.1 u) us (ws.zip ds) ∧ EachIs (fun (u : Value) (p : V × PyData) => ∃ as, Reads s.heap u p.2 as) us (ws.zip ds)
  | _, _, _, .nil, .nil => ⟨.nil, .nil⟩
  | _, _, _, .cons h t, .cons r rs => by
    obtain ⟨h1, h2⟩ := each_of I t rs
    obtain ⟨as, r1⟩ := Dp.reads I _ _ _ h r
    exact ⟨.cons r h1, .cons ⟨as, r1⟩ h2⟩
theorem dpAll_length {K : PySem.W.Frag} {H : Hp} : ∀ {ws : List V} {xs : List PyData}, DpAll K H ws xs → ws.length = xs.length
  | _, _, .nil => rfl
  | _, _, .cons _ t => by rw [List.length_cons, List.length_cons, dpAll_length t]
theorem zip_snd : ∀ {ws : List V} {ds : List PyData}, ws.length = ds.length → (ws.zip ds).map (fun p : V × PyData => p.2) = ds
  | [], [], _ => rfl
  | w :: ws, d :: ds, h => by
    rw [List.zip_cons_cons, List.map_cons, zip_snd (by simpa using h)]
  | [], _ :: _, h => by simp at h
  | _ :: _, [], h => by simp at h
theorem vals_each : ∀ {out : List Value} {bs : List (V × PyData)}, EachIs (fun (u : Value) (p : V × PyData) => RelV p.1 u) out bs → Vals (bs.map (·.1)) out
  | _, _, .nil => .nil
  | _, _, .cons h t => .cons h (vals_each t)
/-- a dict's keys, gathered -/
theorem coll_dict {A : Around} {E : Value → Shared → Prop} {pins : List (Addr × Obj)} {σ : L2.St} {H : Hp} {s : Shared} {a : Addr} {ws : List V} {R : List Value → Shared → Prop} (hh : A.handled = none) (I : Inv X pins σ H s)
    (h : (∃ kvs, Rd H a (.dK kvs) ∧ ws = kvs.map fun kv => kV kv.1) ∨ ∃ xs W al N kvs, Rd H a (dphi (cf X) a xs) ∧ RepKN (cf X) W al N H kvs xs ∧ ws = xs.map fun x => V.ref x.2.1) (hl : ws.length ≤ sizeLine)
    (k : ∀ h' tk us, (∀ b o, s.heap.get? b = some o → h'.get? b = some o) → Vals ws us → R us { s with heap := h', toks := tk }) : wpAny (model X.prog X.w) A (collect (.ref a)) R E s := by
  rcases h with ⟨kvs, hr, rfl⟩ | ⟨xs, W, al, N, kvs, hr, rk, rfl⟩
  · rw [List.length_map] at hl
    obtain ⟨z, lo, vs, rel, dd⟩ := dk_rd I.hok hr
    obtain ⟨ep, hat⟩ := dd.dictAt
    have hlv : kvs.length = vs.length := Paired.length rel
    have ek : (kvs.map fun kv => kV kv.1) = vs.map fun p => kV p.1 := by
      have e := congrArg (List.map kV) rel.keys
      rw [List.map_map, List.map_map] at e
      exact e
    refine PySem.W.kdu_collect (PySem.W.kdl_dict (knd := mixKind X.prog X.w) (kvs := vs) (ep := ep) lo) hh hat (by omega) fun h' tk acc hk hacc => ?_
    refine k h' tk acc.toList hk ?_
    rw [ek]
    exact keys_at (by rw [Array.length_toList, hacc.1]) fun j v e => hacc.2 j v (by rw [← Array.getElem?_toList]; exact e)
  · rw [List.length_map] at hl
    obtain ⟨⟨lo, _, _, o, es, ep, ho, hx, hdt, he, _⟩, _, _⟩ := hr.ok I.hok
    have l1 : es.size = xs.length := size_of_entries he
    refine PySem.W.kdu_collect (kdl_raw lo hx hdt) hh ho (by omega) fun h' tk acc hk hacc => ?_
    refine k h' tk acc.toList hk ?_
    have hlen : acc.toList.length = xs.length := by rw [Array.length_toList, hacc.1, l1]
    refine vals_of_at (by rw [List.length_map, hlen]) fun j x u h1 h2 => ?_
    obtain ⟨en, hen, hv⟩ := hacc.2 j u (by rw [← Array.getElem?_toList]; exact h2)
    have qe := entry_at he j
    rw [hen] at qe
    rw [List.getElem?_map] at h1
    cases hb : xs[j]? with
    | none => rw [hb] at h1; cases h1
    | some b =>
      rw [hb] at h1 qe
      cases h1
      have e2 : en = entryOfKey (nestedKind X.prog X.w) b := Option.some.inj qe
      rw [hv, e2]
      rfl
theorem cr_srt (hc : X.calm = true) (hu : X.A.units + 64 < cLine) : CallR X (.builtin "sorted") (rSrt X) := by
  intro pins s σ H vs us Q I r h
  obtain ⟨a, ws, ds, rfl, hit, hz, hx, hal, hk, hd, q⟩ := h
  rw [Vals.ref1 r]
  have hlz := dpAll_length hx
  have hzs := zip_snd hlz
  have hzl : (ws.zip ds).length = ws.length := by rw [List.length_zip, ← hlz, Nat.min_self]
  have hdu : ∀ (n : Nat), n ≤ 3 → ∀ b, b ∈ ws.zip ds → X.A.units + n + b.2.depth < cLine := fun n hn b hb => by
    have := hd b.2 (by rw [← hzs]; exact List.mem_map.mpr ⟨b, hb, rfl⟩)
    omega
  have hsl : (srtV ws ds).length ≤ sizeLine := by
    unfold srtV
    rw [List.length_map, List.length_mergeSort, hzl]; exact hz
  rcases hit with hs | hit
  · obtain ⟨its, rv, hl, _⟩ := I.list hs
    obtain ⟨e, er⟩ := each_of I hx rv
    refine PySem.W.sorted_data hl.isList e er (by rw [hzs]; exact hal) (by rw [hzs]; exact hk) (by rw [hzl]; exact hz) (fun b hb => hdu 2 (by omega) b hb) fun out ho eo => ?_
    obtain ⟨ep, he'⟩ := PyProof.Rows.sortedAll_at s.heap its (List.toArray out)
    exact ⟨.ref _, upd H (s.heap.objs.size + 1) (.lst (srtV ws ds)), I.laid (t' := s.toks) (fun _ _ => PyProof.Rows.sortedAll_old) (Nat.le_succ _) ⟨hsl, out, ep, vals_each eo, he'⟩, rfl, q _ (I.hok.fresh (Nat.le_succ _))⟩
  · refine Calls.call_function_entry PyProof.Rows.kind_sorted PyProof.Rows.plain_sorted PyProof.Rows.entry_sorted (PyProof.Rows.args_sorted1 _) ?_
    unfold Builtin.«sorted»
    refine wpAny_bind (m := checkCount "sorted" 1 1 _) (wpAny_pure ?_)
    refine wpAny_bind (coll_dict (A := X.A.in1) (I.ok.hd hc) I hit hz fun h' tk acc hkp rv => ?_)
    have I1 : Inv X pins σ H { s with heap := h', toks := tk } := I.kept hkp
    have hal2 : acc.length = ws.length := rv.length.symm
    refine wpAny_bind (wpAny_newList ?_ (by rw [hal2]; exact hz))
    have hoL : (h'.push (seqObj "list" acc.toArray 0)).get? h'.objs.size = some (seqObj "list" acc.toArray 0) := Heap.get?_push_size _ rfl
    show wpAny _ _ _ _ _ { s with heap := h'.push (seqObj "list" acc.toArray 0), toks := tk }
    obtain ⟨e, er⟩ := each_of I1 hx rv
    have er2 : EachIs (fun (u : Value) (p : V × PyData) => ∃ as, Reads (h'.push (seqObj "list" acc.toArray 0)) u p.2 as ∧ h'.objs.size ∉ as) acc (ws.zip ds) := er.mono fun u p ⟨as, rd⟩ => ⟨as, Reads.keeps (fun b o q => Heap.get?_push_of_some _ q) rd, fun hm => by
      obtain ⟨o, ho⟩ := PyProof.On.reads_mem_get rd _ hm
      exact absurd (Heap.lt_size ho) (Nat.lt_irrefl _)⟩
    refine wpAny_bind (wpAny_holding (PySem.W.list_sort_data (s := { s with heap := h'.push (seqObj "list" acc.toArray 0), toks := tk }) hoL e er2 (by rw [hzs]; exact hal) (by rw [hzs]; exact hk) (by rw [hzl]; exact hz) (fun b hb => by rw [Around.in1_units]; have := hdu 3 (by omega) b hb; omega) fun out ho eo => ?_))
    obtain ⟨e', he'⟩ := PyProof.Rows.sortedHeap_at (vs := acc) (out := List.toArray out) hoL
    refine wpAny_pure ⟨_, rfl, .ref h'.objs.size, upd H h'.objs.size (.lst (srtV ws ds)), I1.laid (t' := tk) (fun b u eb => ?_) (Nat.le_refl _)
        (show ObjOk X.prog X.w _ _ _ (.lst (srtV ws ds)) from ⟨hsl, out, e', vals_each eo, he'⟩), rfl, q _ (I1.hok.fresh (Nat.le_refl _))⟩
    have hb : b < h'.objs.size := Heap.lt_size eb
    rw [PyProof.Rows.sortedHeap_old (Nat.ne_of_lt hb) (by rw [size_push']; exact Nat.lt_succ_of_lt hb)]
    exact Heap.get?_push_of_some _ eb
/-! #### at the trees -/
def itD (sl : Sl) (S : Sto) (r : Rf) : Option (List D) := match vw sl S r with
  | some (.lst ds) => some ds
  | some (.dct _ kvs) => some (kvs.map (·.1))
  | _ => none
def dSrt (ds : List D) : List D := ds.mergeSort (dataLe false py)
def gSrt : FO := fun rs sl S => match rs with
  | [r] => match itD sl S r with
    | some ds => if ds.length ≤ sizeLine ∧ alk ds = true ∧ srtOk (pys ds) = true ∧ PyData.depthAll (pys ds) ≤ 60 then some (.lst (dSrt ds)) else none
    | none => none
  | _ => none
theorem each_reps {W : Addr → Prop} {al : Nat → Addr} {N : Nat} {H : Hp} : ∀ {ds : List D} {ws : List V}, Reps (cf X) W al N H ds ws → EachIs (fun (p : V × PyData) (d : D) => Rep (cf X) W al N H d p.1 ∧ p.2 = py d) (ws.zip (pys ds)) ds
  | _, _, .nil => .nil
  | _, _, .cons r t => by rw [pys]; exact .cons ⟨r, rfl⟩ (each_reps t)
theorem reps_each {W : Addr → Prop} {al : Nat → Addr} {N : Nat} {H : Hp} : ∀ {bs : List (V × PyData)} {ds : List D}, EachIs (fun (p : V × PyData) (d : D) => Rep (cf X) W al N H d p.1 ∧ p.2 = py d) bs ds → Reps (cf X) W al N H ds (bs.map (·.1))
  | _, _, .nil => .nil
  | _, _, .cons h t => .cons h.1 (reps_each t)
theorem srt_reps {W : Addr → Prop} {al : Nat → Addr} {N : Nat} {H : Hp} {ds : List D} {ws : List V} (r : Reps (cf X) W al N H ds ws) : Reps (cf X) W al N H (dSrt ds) (srtV ws (pys ds)) := by
  have e := each_reps r
  refine reps_each (sort_each e fun p hp q hq => ?_)
  have h1 := (e.zip p hp).2
  have h2 := (e.zip q hq).2
  rw [dataLe_eq, dataLe_eq]
  simp only [h1, h2]
theorem depth_le : ∀ {xs : List PyData} {d : PyData}, d ∈ xs → d.depth ≤ PyData.depthAll xs
  | [], _, h => by simp at h
  | x :: xs, d, h => by
    rw [PyData.depthAll]
    rcases List.mem_cons.mp h with rfl | h
    · exact Nat.le_max_left _ _
    · exact Nat.le_trans (depth_le h) (Nat.le_max_right _ _)
theorem keysM_rep {W : Addr → Prop} {al : Nat → Addr} {N : Nat} {H : Hp} : ∀ {kvs : List (D × D)} {ws : List (Key × V)}, RepKM (cf X) W al N H kvs ws → Reps (cf X) W al N H (kvs.map (·.1)) (ws.map fun kv => kV kv.1)
  | _, _, .nil => .nil
  | _, _, @RepKM.cons _ _ _ _ _ d e k v kvs ws h r t => by
    refine .cons ?_ (keysM_rep t)
    cases d <;> first | (cases h; done) | skip
    · cases h; exact .int _
    · cases h; exact .str _
theorem keysN_rep {W : Addr → Prop} {al : Nat → Addr} {N : Nat} {H : Hp} : ∀ {kvs : List (D × D)} {xs : List (NestedKey × Addr × Value)}, RepKN (cf X) W al N H kvs xs → Reps (cf X) W al N H (kvs.map (·.1)) (xs.map fun x => V.ref x.2.1)
  | _, _, .nil => .nil
  | _, _, .cons h ra ru r t => .cons ra (keysN_rep t)
theorem itD_rep {U : Addr → Prop} {ad : Cell → Addr} {sl : Sl} {S : Sto} {σ : L2.St} {H : Hp} {r : Rf} {v : V} {ds : List D} (s : Sim (cf X) U ad sl S σ H) (q : RepR (cf X) (Wr U ad sl S) (lc ad) S.length H σ r v) (h : itD sl S r = some ds) :
    ∃ a ws, v = .ref a ∧ ItAt X H a ws ∧ Reps (cf X) (Wr U ad sl S) (lc ad) S.length H ds ws := by
  unfold itD at h
  split at h
  · rename_i ds' hv
    cases h
    cases s.view q hv with
    | lst h r => exact ⟨_, _, rfl, .inl h, r⟩
  · rename_i t kvs hv
    cases h
    cases s.view q hv with
    | dct h r =>
      cases r with
      | dctM r => exact ⟨_, _, rfl, .inr (.inl ⟨_, h, rfl⟩), keysM_rep r⟩
      | dctN r => exact ⟨_, _, rfl, .inr (.inr ⟨_, _, _, _, _, h, r, rfl⟩), keysN_rep r⟩
  · cases h
theorem co_srt (hc : X.calm = true) (hu : X.A.units + 64 < cLine) : CoS X (.builtin "sorted") gSrt := ⟨_, cr_srt hc hu, fun U ad sl S σ H rs vs ob Q s rr e k => by
  unfold gSrt at e
  split at e
  · rename_i r
    obtain ⟨v, rfl, r1⟩ := repRs1 rr
    split at e
    · rename_i ds hv
      split at e
      · rename_i hh
        cases e
        obtain ⟨a, ws, rfl, hit, rp⟩ := itD_rep s r1 hv
        obtain ⟨hp, hal⟩ := alk_of hh.2.1
        refine ⟨a, ws, pys ds, rfl, hit, by rw [← rp.length]; exact hh.1, rp.dp hp, fun x hx y hy => hal x hx y hy, srtOk_of hh.2.2.1, fun d hd => Nat.le_trans (depth_le hd) hh.2.2.2, fun p hp' => ?_⟩
        exact k p _ hp' True.intro (.lst (srt_reps rp))
      · cases e
    · cases e
  · cases e⟩
/-- list(d) of a dict: its keys -/
def rLstD (X : Cx) : List V → Hp → VK → Prop := fun vs H Q => ∃ a ws, vs = [.ref a] ∧ ((∃ kvs, Rd H a (.dK kvs) ∧ ws = kvs.map fun kv => kV kv.1)) ∧ ∀ p, H p = none → Q (.ref p) (upd H p (.lst ws))
end
end PS

namespace PS
open PySem PySem.Spec PyProof.Rows L2 PySem.SeqAt

/-! ### * of ints -/
section
variable {X : Cx}
abbrev gMul : F2 := fI (fun i j => decide (i.natAbs.log2 + j.natAbs.log2 < 1000000)) fun i j => .int (i * j)
theorem o_mul : OpR X (binaryOp .Mult) (rI CMulW fun i j => .int (i * j)) ∧ OpS (cf X) gMul (rI CMulW fun i j => .int (i * j)) := ⟨op_mulW, opS_int fun i j h => by
  have := of_decide_eq_true h
  unfold CMulW; omega⟩
end

/-! ### a < b < c -/
/-- two comparisons in a row -/
def mCh (f g : F2) (ma mb mc : M Rf) : M D := mBind ma fun x => mBind mb fun y => fun sl S => match f sl S x y with
  | some (.bl true) => (m2 g (mPure y) mc) sl S
  | some (.bl false) => some (.bl false, sl, S)
  | _ => none
section
variable {X : Cx} {a b c : Expr} {pos : Pos} {op op' : CmpOp} {f g : F2} {r r' : R2} {ma mb mc : M Rf}
theorem tChain_of {C : Cf} (hf : OpS C f r) (hg : OpS C g r') {σ : L2.St} {H : Hp} {Q : VK} (h : tX rD C (mCh f g ma mb mc) σ H Q) : tChain r r' (tX rR C ma) (tX rR C mb) (tX rR C mc) σ H Q := by
  refine tX_bind h fun U ad sl S x d sl' S' H1 vx s rx e k => ?_
  obtain ⟨y, sl1, S1, e1, e2⟩ := mBind_some e
  refine ⟨U, ad, sl, S, y, sl1, S1, s, e1, fun ad1 H2 vy s2 n2 ry => ?_⟩
  split at e2
  · rename_i hb
    refine hf U ad1 _ _ σ H2 x y vx vy (.bl true) _ s2 (rR_mono n2.ext rx) ry hb fun ad3 H3 z s3 n3 r3 => ?_
    cases r3
    refine ⟨true, rfl, ?_⟩
    rw [if_pos rfl]
    obtain ⟨y', sl4, S4, e4, e5⟩ := mBind_some e2
    cases e4
    obtain ⟨w, sl5, S5, e6, e7⟩ := mBind_some e5
    refine ⟨U, ad3, sl1, S1, w, sl5, S5, s3, e6, fun ad5 H5 vw s5 n5 rw' => ?_⟩
    cases eg : g sl5 S5 y w with
    | none => rw [eg] at e7; cases e7
    | some d' =>
      rw [eg] at e7
      cases e7
      exact hg U ad5 _ _ σ H5 y w vy vw d Q s5 (rR_mono n5.ext (rR_mono n3.ext ry)) rw' eg fun ad6 H6 v6 s6 n6 r6 => k ad6 H6 v6 s6 (((n2.trans n3).trans n5).trans n6) r6
  · rename_i hb
    cases e2
    refine hf U ad1 _ _ σ H2 x y vx vy (.bl false) _ s2 (rR_mono n2.ext rx) ry hb fun ad3 H3 z s3 n3 r3 => ?_
    cases r3
    refine ⟨false, rfl, ?_⟩
    rw [if_neg Bool.false_ne_true]
    exact k ad3 H3 _ s3 (n2.trans n3) (.bl false)
  · cases e2
theorem ee_ch (ho : OpR X (compareOp op) r ∧ OpS (cf X) f r) (ho' : OpR X (compareOp op') r' ∧ OpS (cf X) g r') (ha : ER X a ma) (hb : ER X b mb) (hc : ER X c mc) (hm : lastMarks [op, op'] [b, c] = false := by with_unfolding_all rfl) : EE X (.Compare a [op, op'] [b, c] pos) (mCh f g ma mb mc) :=
  pe_imp (pe_chain ho.1 ho'.1 ha hb hc hm) fun σ H Q q => tChain_of ho.2 ho'.2 q
theorem et_ch (ho : OpR X (compareOp op) r ∧ OpS (cf X) f r) (ho' : OpR X (compareOp op') r' ∧ OpS (cf X) g r') (ha : ER X a ma) (hb : ER X b mb) (hc : ER X c mc) (hm : lastMarks [op, op'] [b, c] = false := by with_unfolding_all rfl) : ET X (.Compare a [op, op'] [b, c] pos) (mB (mCh f g ma mb mc)) :=
  pt_imp (pt_chain ho.1 ho'.1 ha hb hc hm) fun σ H Q q => by
    have z := tX_mB q
    obtain ⟨U, ad, sl, S, d, sl', S', s, e, k⟩ := z
    exact tChain_of ho.2 ho'.2 ⟨U, ad, sl, S, d, sl', S', s, e, k⟩
end

/-! ### slices -/
/-- a part of a slice -/
def EO (X : Cx) (e : Option Expr) (m : M (Option Int)) : Prop := PO X e (tX rO (cf X) m)
def oN : M (Option Int) := mPure none
def oS (m : M D) : M (Option Int) := mBind m fun d => fun sl S => match d with
  | .int i => some (some i, sl, S)
  | _ => none
def mSl (mr : M Rf) (ml mh : M (Option Int)) : M D := mBind mr fun r => mBind ml fun lo => mBind mh fun hi => fun sl S => match vw sl S r with
  | some (.lst ds) => some (.lst (cutV' ds lo hi), sl, S)
  | some (.tup ds) => some (.tup (cutV' ds lo hi), sl, S)
  | some (.str z) => if z.length ≤ sizeLine then some (.str (cutS z lo hi), sl, S) else none
  | _ => none
where cutV' (xs : List D) (lo hi : Option Int) : List D := (xs.drop (HT.sIx xs.length 0 lo)).take (HT.sIx xs.length xs.length hi - HT.sIx xs.length 0 lo)
section
variable {X : Cx} {e : Expr} {lo hi : Option Expr} {m : M D} {mr : M Rf} {ml mh : M (Option Int)} {pos p2 : Pos}
theorem po_imp {e : Option Expr} {t t' : TO} (h : PO X e t) (k : ∀ σ H Q, t' σ H Q → t σ H Q) : PO X e t' := ⟨fun pins s σ H Q I q => h.run pins s σ H Q I (k σ H Q q)⟩
theorem eo_n : EO X none oN := po_imp po_none fun σ H Q q => by
  obtain ⟨U, ad, sl, S, a, sl', S', s, e, k⟩ := q
  cases e
  exact k ad H _ s Nx.refl rfl
theorem eo_s (h : EE X e m) : EO X (some e) (oS m) := po_imp (po_some h) fun σ H Q q => by
  refine tX_bind q fun U ad sl S d c sl' S' H1 v s r e k => ?_
  cases d <;> try (cases e; done)
  cases e
  cases r
  exact ⟨_, rfl, k ad H1 _ s Nx.refl rfl⟩
def rSlG (X : Cx) : V → Option Int → Option Int → Hp → VK → Prop := fun x lo hi H Q => rSlL X.K x lo hi H Q ∨ rSlF X.K x lo hi H Q ∨ rSlS x lo hi H Q
theorem sl_G : SlR X (rSlG X) := sl_list.or (sl_tupF.or sl_str)
theorem cut_reps {C : Cf} {W : Addr → Prop} {al : Nat → Addr} {N : Nat} {H : Hp} {ds : List D} {vs : List V} {lo hi : Option Int} (r : Reps C W al N H ds vs) : Reps C W al N H (mSl.cutV' ds lo hi) (cutV vs lo hi) := by
  unfold mSl.cutV' cutV
  rw [← r.length]
  exact (r.drop _).take _
theorem ee_sl (hr : ER X e mr) (hl : EO X lo ml) (hh : EO X hi mh) : EE X (.Subscript e (.Slice lo hi none p2) pos) (mSl mr ml mh) := pe_imp (pe_slice sl_G hr hl hh) fun σ H Q q => by
  refine tX_bind q fun U ad sl S r d sl' S' H1 v s rr e k => ?_
  obtain ⟨o1, sl1, S1, e1, e2⟩ := mBind_some e
  refine ⟨U, ad, sl, S, o1, sl1, S1, s, e1, fun ad1 H2 l' s1 n1 r1 => ?_⟩
  cases r1
  obtain ⟨o2, sl2, S2, e3, e4⟩ := mBind_some e2
  refine ⟨U, ad1, sl1, S1, o2, sl2, S2, s1, e3, fun ad2 H3 h' s2 n2 r2 => ?_⟩
  cases r2
  have rr2 := rR_mono n2.ext (rR_mono n1.ext rr)
  have k2 : tY rD (cf X) U ad2 sl2 S2 H3 d sl' S' σ Q := fun ad3 H4 w s3 n3 r3 => k ad3 H4 w s3 ((n1.trans n2).trans n3) r3
  split at e4
  · rename_i ds hv
    cases e4
    cases s2.view rr2 hv with
    | lst h r => exact .inl ⟨_, _, rfl, h, fun p hp => finL s2 k2 (cut_reps r) hp⟩
  · rename_i ds hv
    cases e4
    cases s2.view rr2 hv with
    | tup h r r0 =>
      refine .inr (.inl ⟨_, _, rfl, h, fun hw => ?_, fun _ p o hp ho => finT s2 k2 (cut_reps r) hp ho⟩)
      have e5 : mSl.cutV' ds o1 o2 = ds := by
        unfold mSl.cutV'
        rw [r.length, hw.1, hw.2, List.drop_zero, Nat.sub_zero, ← r.length, List.take_length]
      rw [e5] at k2
      exact fin0 s2 k2 r0
  · rename_i z hv
    split at e4
    · rename_i hz
      cases e4
      cases s2.view rr2 hv with
      | str => exact .inr (.inr ⟨z, rfl, hz, fin0 s2 k2 (.str _)⟩)
    · cases e4
  · cases e4
end

/-! ### a, b = x, y with new objects -/
inductive AV where
  | v (d : D)
  | o (ob : Ob)
def Us (U : Addr → Prop) : List Addr → Addr → Prop
  | [] => U
  | p :: ps => Us (Ub U p) ps
def UsOk (U : Addr → Prop) : List Addr → Prop
  | [] => True
  | p :: ps => ¬ U p ∧ UsOk (Ub U p) ps
inductive AVs (C : Cf) (W : Addr → Prop) (al : Nat → Addr) (N : Nat) (H : Hp) : List AV → List Addr → List V → Prop
  | nil : AVs C W al N H [] [] []
  | v {d : D} {v : V} {as : List AV} {ps : List Addr} {vs : List V} : Rep C W al N H d v → AVs C W al N H as ps vs → AVs C W al N H (.v d :: as) ps (v :: vs)
  | o {ob : Ob} {p : Addr} {ho : HO} {as : List AV} {ps : List Addr} {vs : List V} : H p = some ho → mtb ho → RepH C W al N H p ob ho → AVs C W al N H as ps vs → AVs C W al N H (.o ob :: as) (p :: ps) (.ref p :: vs)
theorem Us_sub {U : Addr → Prop} : ∀ {ps : List Addr} {a : Addr}, U a → Us U ps a
  | [], _, h => h
  | p :: ps, _, h => Us_sub (ps := ps) (.inl h)
def tAV (C : Cf) (m : M (List AV)) : TA := fun σ H Q => ∃ U ad sl S as sl' S', Sim C U ad sl S σ H ∧ m sl S = some (as, sl', S') ∧
  ∀ ad' H' ps vs, Sim C (Us U ps) ad' sl' S' σ H' → Ext (Wr U ad sl S) (lc ad) S.length H (Wr (Us U ps) ad' sl' S') (lc ad') S'.length H' → (∀ a o, U a → H a = some o → H' a = some o) → UsOk U ps →
    AVs C (Wr (Us U ps) ad' sl' S') (lc ad') S'.length H' as ps vs → Q vs H'
def EV (X : Cx) (es : List Expr) (m : M (List AV)) : Prop := PA X es (tAV (cf X) m)
def avN : M (List AV) := mPure []
def avV (m : M D) (n : M (List AV)) : M (List AV) := mBind m fun d => mBind n fun as => mPure (.v d :: as)
def avO (m : M Ob) (n : M (List AV)) : M (List AV) := mBind m fun ob => mBind n fun as => mPure (.o ob :: as)
section
variable {X : Cx} {e : Expr} {es : List Expr} {m : M D} {mo : M Ob} {n : M (List AV)}
theorem ev_nil : EV X [] avN := pa_imp pa_nil fun σ H Q q => by
  obtain ⟨U, ad, sl, S, a, sl', S', s, e, k⟩ := q
  cases e
  exact k ad H [] [] s Ext.refl (fun _ _ _ q => q) True.intro .nil
theorem ev_v (h : EE X e m) (hr : EV X es n) (hs : starEach (e :: es) X.env = (false, eval e X.env) :: starEach es X.env := by rfl) : EV X (e :: es) (avV m n) := pa_imp (pa_cons h hr hs) fun σ H Q q => by
  obtain ⟨U, ad, sl, S, a, sl', S', s, e, k⟩ := q
  obtain ⟨d, sl1, S1, e1, e2⟩ := mBind_some e
  obtain ⟨as, sl2, S2, e3, e4⟩ := mBind_some e2
  cases e4
  refine ⟨U, ad, sl, S, d, sl1, S1, s, e1, fun ad1 H1 v s1 n1 r1 => ?_⟩
  exact ⟨U, ad1, sl1, S1, as, _, _, s1, e3, fun ad2 H2 ps vs s2 x2 ku ok avs => k ad2 H2 ps (v :: vs) s2 (n1.ext.trans x2) (fun a o u q => ku a o u (n1.ku a o u q)) ok (.v (Rep.mono x2 r1) avs)⟩
theorem ev_o (h : EN X e mo) (hr : EV X es n) (hs : starEach (e :: es) X.env = (false, eval e X.env) :: starEach es X.env := by rfl) : EV X (e :: es) (avO mo n) := pa_imp (pa_cons h hr hs) fun σ H Q q => by
  obtain ⟨U, ad, sl, S, a, sl', S', s, e, k⟩ := q
  obtain ⟨ob, sl1, S1, e1, e2⟩ := mBind_some e
  obtain ⟨as, sl2, S2, e3, e4⟩ := mBind_some e2
  cases e4
  refine ⟨U, ad, sl, S, ob, sl1, S1, s, e1, fun ad1 H1 p ho s1 n1 hp hm hr => ?_⟩
  have hU : ¬ U p := fun z => by
    obtain ⟨o, q, _⟩ := s1.utr p z
    rw [hp] at q; cases q
  obtain ⟨s2, x2⟩ := s1.lay (D := p) (ho := ho) hp hm
  refine ⟨Ub U p, ad1, sl1, S1, as, _, _, s2, e3, fun ad3 H3 ps vs s3 x3 ku ok avs => ?_⟩
  refine k ad3 H3 (p :: ps) (.ref p :: vs) s3 ((n1.ext.trans x2).trans x3) (fun a o u q => ku a o (.inl u) ?_) ⟨hU, ok⟩ (.o (ku p ho (.inr rfl) upd_same) hm (RepH.mono (x2.trans x3) hr) avs)
  rw [upd_ne fun z => hU (by rw [← z]; exact u)]
  exact n1.ku a o u q
end
/-- a builder's object becomes a slot's own -/
theorem Sim.adopt {C : Cf} {U : Addr → Prop} {ad : Cell → Addr} {sl : Sl} {S : Sto} {σ : L2.St} {H : Hp} {p : Addr} {ob : Ob} {ho : HO} {i : Nat} (s : Sim C (Ub U p) ad sl S σ H) (hU : ¬ U p) (hp : H p = some ho) (hm : mtb ho)
    (hr : RepH C (Wr (Ub U p) ad sl S) (lc ad) S.length H p ob ho) (hi : i < sl.length) : ∃ ad', Sim C U ad' (sl.set i (some (.own ob))) S (σ.set i (some (.ref p))) H ∧ Ext (Wr (Ub U p) ad sl S) (lc ad) S.length H (Wr U ad' (sl.set i (some (.own ob))) S) (lc ad') S.length H := by
  have hi' : i < σ.length := by rw [← s.len]; exact hi
  refine ⟨fun c => if c = .inr i then p else ad c, ?_⟩
  have hob : ∀ c ob', objAt (sl.set i (some (.own ob))) S c = some ob' → (c = .inr i ∧ ob' = ob) ∨ (c ≠ .inr i ∧ objAt sl S c = some ob') := fun c ob' q => by
    rw [objAt_own hi] at q
    split at q
    · cases q; exact .inl ⟨by assumption, rfl⟩
    · exact .inr ⟨by assumption, q⟩
  have wl : ∀ a, Wr U (fun c => if c = .inr i then p else ad c) (sl.set i (some (.own ob))) S a → Wr (Ub U p) ad sl S a := fun a z => by
    rcases z with z | ⟨c, ob', h, e⟩
    · exact .inl (.inl z)
    · rcases hob c ob' h with ⟨rfl, rfl⟩ | ⟨hne, h'⟩
      · dsimp only at e
        rw [if_pos rfl] at e
        exact .inl (.inr e.symm)
      · dsimp only at e
        rw [if_neg hne] at e
        exact .inr ⟨c, ob', h', e⟩
  have ext : Ext (Wr (Ub U p) ad sl S) (lc ad) S.length H (Wr U (fun c => if c = .inr i then p else ad c) (sl.set i (some (.own ob))) S) (lc fun c => if c = .inr i then p else ad c) S.length H :=
    ⟨Nat.le_refl _, fun n _ => if_neg (fun z => nomatch z), fun a z => .inl (wl a z), fun _ _ _ q => .inl q⟩
  refine ⟨⟨by rw [List.length_set, List.length_set]; exact s.len, fun c ob' h => ?_, fun j sv q => ?_, fun c c' o1 o2 h1 h2 e => ?_, fun c ob' h z => ?_, fun a z => s.utr a (.inl z)⟩, ext⟩
  · rcases hob c ob' h with ⟨rfl, rfl⟩ | ⟨hne, h'⟩
    · rw [if_pos rfl]
      exact ⟨ho, hp, hm, hr.mono ext⟩
    · rw [if_neg hne]
      obtain ⟨o, q1, q2, q3⟩ := s.cel c ob' h'
      exact ⟨o, q1, q2, q3.mono ext⟩
  · by_cases e : j = i
    · subst e
      rw [List.getElem?_set_self hi] at q
      cases q
      refine ⟨.ref p, by rw [List.getElem?_set_self hi'], ?_⟩
      rw [if_pos rfl]
      exact .own
    · rw [List.getElem?_set_ne (Ne.symm e)] at q
      obtain ⟨v, r1, r2⟩ := s.slt j sv q
      refine ⟨v, by rw [List.getElem?_set_ne (Ne.symm e)]; exact r1, r2.mono ext fun _ _ => ?_⟩
      rw [if_neg fun z => e (Sum.inr.inj z)]
  · rcases hob c o1 h1 with ⟨rfl, rfl⟩ | ⟨n1, h1'⟩ <;> rcases hob c' o2 h2 with ⟨rfl, rfl⟩ | ⟨n2, h2'⟩
    · rfl
    · rw [if_pos rfl, if_neg n2] at e
      exact absurd (.inr e.symm) (s.out c' o2 h2')
    · rw [if_pos rfl, if_neg n1] at e
      exact absurd (.inr e) (s.out c o1 h1')
    · rw [if_neg n1, if_neg n2] at e
      exact s.inj c c' o1 o2 h1' h2' e
  · rcases hob c ob' h with ⟨rfl, rfl⟩ | ⟨hne, h'⟩
    · rw [if_pos rfl] at z
      exact hU z
    · rw [if_neg hne] at z
      exact s.out c ob' h' (.inl z)
/-- the stores -/
def stAV : List Nat → List AV → Sl → Option Sl
  | [], [], sl => some sl
  | i :: is, .v d :: as, sl => (stAV is as sl).bind fun sl' => if i < sl'.length then some (sl'.set i (some (.val d))) else none
  | i :: is, .o ob :: as, sl => (stAV is as sl).bind fun sl' => if i < sl'.length then some (sl'.set i (some (.own ob))) else none
  | _, _, _ => none
def setR : List Nat → List V → L2.St → L2.St
  | i :: is, v :: vs, σ => (setR is vs σ).set i (some v)
  | _, _, σ => σ
theorem stAV_ok {C : Cf} {S : Sto} {H : Hp} {W : Addr → Prop} {al : Nat → Addr} {N : Nat} : ∀ {as : List AV} {ps : List Addr} {vs : List V}, AVs C W al N H as ps vs → ∀ (is : List Nat) (U : Addr → Prop) (ad : Cell → Addr) (sl sl' : Sl) (σ : L2.St), Sim C (Us U ps) ad sl S σ H → Ext W al N H (Wr (Us U ps) ad sl S) (lc ad) S.length H → UsOk U ps → stAV is as sl = some sl' →
    ∃ ad', Sim C U ad' sl' S (setR is vs σ) H ∧ Ext (Wr (Us U ps) ad sl S) (lc ad) S.length H (Wr U ad' sl' S) (lc ad') S.length H
  | _, _, _, .nil => fun is U ad sl sl' σ s x ok e => by
    cases is with
    | nil => cases e; exact ⟨ad, s, Ext.refl⟩
    | cons i is => cases e
  | _, _, _, .v r avs => fun is U ad sl sl' σ s x ok e => by
    cases is with
    | nil => cases e
    | cons i is =>
      rw [stAV] at e
      obtain ⟨sl1, e1, e2⟩ := bind_some2 e
      split at e2
      · rename_i hi
        cases e2
        obtain ⟨ad1, s1, x1⟩ := stAV_ok avs _ _ _ _ _ σ s x ok e1
        obtain ⟨s2, n2⟩ := s1.setVal hi (Rep.mono (x.trans x1) r)
        exact ⟨ad1, s2, x1.trans n2.ext⟩
      · cases e2
  | _, _, _, @AVs.o _ _ _ _ _ ob p ho as ps vs hp hm hr avs => fun is U ad sl sl' σ s x ok e => by
    cases is with
    | nil => cases e
    | cons i is =>
      rw [stAV] at e
      obtain ⟨sl1, e1, e2⟩ := bind_some2 e
      split at e2
      · rename_i hi
        cases e2
        obtain ⟨ad1, s1, x1⟩ := stAV_ok avs _ (Ub U p) _ _ _ σ s x ok.2 e1
        obtain ⟨ad2, s2, x2⟩ := s1.adopt ok.1 hp hm (RepH.mono (x.trans x1) hr) hi
        exact ⟨ad2, s2, x1.trans x2⟩
      · cases e2
def sParA (is : List Nat) (m : M (List AV)) : MS := fun sl S => match m sl S with
  | some (as, sl', S') => (stAV is as sl').map fun sl2 => (.nx, sl2, S')
  | none => none
section
variable {X : Cx} {x y z : Str} {a b c : Expr} {ma : M (List AV)} {px py pz pt pos : Pos} {kt : Nat} {k2 : Nat} {pt2 : Pos}
theorem stAV_len : ∀ {is : List Nat} {as : List AV} {sl sl' : Sl}, stAV is as sl = some sl' → as.length = is.length
  | [], [], _, _, _ => rfl
  | [], _ :: _, _, _, e => by cases e
  | _ :: _, [], _, _, e => by cases e
  | i :: is, .v d :: as, sl, sl', e => by
    rw [stAV] at e
    obtain ⟨sl3, e4, _⟩ := bind_some2 e
    rw [List.length_cons, List.length_cons, stAV_len e4]
  | i :: is, .o d :: as, sl, sl', e => by
    rw [stAV] at e
    obtain ⟨sl3, e4, _⟩ := bind_some2 e
    rw [List.length_cons, List.length_cons, stAV_len e4]
theorem AVs.len {C : Cf} {W : Addr → Prop} {al : Nat → Addr} {N : Nat} {H : Hp} : ∀ {as : List AV} {ps : List Addr} {vs : List V}, AVs C W al N H as ps vs → as.length = vs.length
  | _, _, _, .nil => rfl
  | _, _, _, .v _ t => by rw [List.length_cons, List.length_cons, AVs.len t]
  | _, _, _, .o _ _ _ t => by rw [List.length_cons, List.length_cons, AVs.len t]
theorem sParA_of {C : Cf} {is : List Nat} {D : Ends} {σ : L2.St} {H : Hp} (h : tS C (sParA is ma) D σ H) : tAV C ma σ H fun vs H1 => vs.length = is.length ∧ D.nx (setR is vs σ) H1 := by
  obtain ⟨U, ad, sl, S, fl, sl', S', s, e, k⟩ := h
  unfold sParA at e
  split at e
  · rename_i as sl1 S1 e1
    rw [Option.map_eq_some_iff] at e
    obtain ⟨sl2, e2, e3⟩ := e
    cases e3
    refine ⟨U, ad, sl, S, as, sl1, _, s, e1, fun ad1 H1 ps vs s1 x1 ku ok avs => ⟨by rw [← avs.len]; exact stAV_len e2, ?_⟩⟩
    obtain ⟨ad2, s2, x2⟩ := stAV_ok avs _ _ _ _ _ _ s1 Ext.refl ok e2
    exact k ad2 H1 _ s2 ⟨x1.trans x2, fun a o u q => ku a o u q⟩
  · cases e
/-- a, b = x, y with plain local names -/
theorem es_par2 (i j : Nat) (hc : X.calm = true) (hN : X.N.Nodup) (ha : EV X [a, b] ma) (hi : X.N[i]? = some x := by rfl) (hj : X.N[j]? = some y := by rfl) (hij : i ≠ j := by decide)
    (hx : X.env.scope.names.lookup x = some .local := by rfl) (hy : X.env.scope.names.lookup y = some .local := by rfl)
    (hw : swappedStores [.Tuple [.Name x px, .Name y py] kt pt] (.Tuple [a, b] k2 pt2) X.env = pure (some [x, y]) := by rfl)
    (hs : swapsWithSole [.Tuple [.Name x px, .Name y py] kt pt] (.Tuple [a, b] k2 pt2) pos.line X.env = pure false := by rfl) :
    ES X (.Assign [.Tuple [.Name x px, .Name y py] kt pt] (.Tuple [a, b] k2 pt2) pos) (sParA [i, j] ma) := ps_imp (ps_par hc hN hi hj hij hx hy ha hw hs) fun D σ H q => by
  have z := sParA_of q
  obtain ⟨U, ad, sl, S, as, sl', S', s, e, k⟩ := z
  refine ⟨U, ad, sl, S, as, sl', S', s, e, fun ad1 H1 ps vs s1 x1 ku ok avs => ?_⟩
  obtain ⟨hl, hq⟩ := k ad1 H1 ps vs s1 x1 ku ok avs
  match vs, hl with
  | [v, w], _ =>
    refine ⟨v, w, rfl, ?_⟩
    rw [List.set_comm _ _ hij]
    exact hq
theorem es_par3 (i j l : Nat) (hc : X.calm = true) (hN : X.N.Nodup) (ha : EV X [a, b, c] ma) (hi : X.N[i]? = some x := by rfl) (hj : X.N[j]? = some y := by rfl) (hl : X.N[l]? = some z := by rfl) (hij : i ≠ j := by decide) (hil : i ≠ l := by decide) (hjl : j ≠ l := by decide)
    (hx : X.env.scope.names.lookup x = some .local := by rfl) (hy : X.env.scope.names.lookup y = some .local := by rfl) (hz : X.env.scope.names.lookup z = some .local := by rfl)
    (hw : swappedStores [.Tuple [.Name x px, .Name y py, .Name z pz] kt pt] (.Tuple [a, b, c] k2 pt2) X.env = pure (some [x, y, z]) := by rfl)
    (hs : swapsWithSole [.Tuple [.Name x px, .Name y py, .Name z pz] kt pt] (.Tuple [a, b, c] k2 pt2) pos.line X.env = pure false := by rfl) :
    ES X (.Assign [.Tuple [.Name x px, .Name y py, .Name z pz] kt pt] (.Tuple [a, b, c] k2 pt2) pos) (sParA [i, j, l] ma) := ps_imp (ps_par3 hc hN hi hj hl hij hil hjl hx hy hz ha hw hs) fun D σ H q => by
  have z := sParA_of q
  obtain ⟨U, ad, sl, S, as, sl', S', s, e, k⟩ := z
  refine ⟨U, ad, sl, S, as, sl', S', s, e, fun ad1 H1 ps vs s1 x1 ku ok avs => ?_⟩
  obtain ⟨hl, hq⟩ := k ad1 H1 ps vs s1 x1 ku ok avs
  match vs, hl with
  | [u, v, w], _ =>
    refine ⟨u, v, w, rfl, ?_⟩
    rw [List.set_comm _ _ hij, List.set_comm _ _ hil, List.set_comm _ _ hjl]
    exact hq
end
end PS

namespace PS
open PySem PySem.Spec PyProof.Rows L2 PySem.SeqAt

/-! ### self.x as a target -/
def gFl (c f : Str) (mo : M Rf) : MG := fun d sl S => match mo sl S with
  | some (r, sl2, S2) => match obR sl2 S2 r with
    | some (cl, .ins c' fs) => if c' = c ∧ fs.length < 1000 then some (setC sl2 S2 cl (.ins c (putFD f d fs))) else none
    | _ => none
  | none => none
section
variable {X : Cx} {o : Expr} {c f : Str} {Cl : Addr} {mo : M Rf} {pos pos' : Pos} {to : TE}
def gFld (K : PySem.W.Frag) (ta : TE) (f : Str) : TG := fun y σ H Q => ta σ H fun x H2 => ∃ a C dx fs, x = .ref a ∧ H2 a = some (.ins C dx fs) ∧ Cls K C ∧ NoAttr K C f ∧ fs.length < 1000 ∧ Q σ (upd H2 a (.ins C dx (putF f y fs)))
theorem pg_fld (ho : PE X o to) : PG X (.Attribute o f pos) (gFld X.K to f) := by
  refine ⟨fun pins s σ H v u Q I r h => ?_⟩
  rw [assign_Attribute]
  refine wpAny_bind (wpAny_holding (thn (ho.run pins s σ H _ I h) fun ov s1 ⟨x, H1, I1, r1, a, C, dx, fs, ex, ea, c, n, l, q⟩ => ?_))
  subst ex
  obtain rfl : ov = Value.ref a := r1
  refine wpAny_bind (wpAny_standAt (wpAny_bind (wpAny_holding (setattr_ok I1 ea c n l r fun s3 I3 => ?_))))
  exact wpAny_release ⟨σ, _, I3, q⟩
theorem eg_fl (ho : ER X o mo) (hc : X.mg c = some (.ref Cl)) (cl : Cls X.K Cl) (na : NoAttr X.K Cl f) : EG X (.Attribute o f pos) [] (gFl c f mo) := pg_imp (pg_fld ho) fun v σ H Q q => by
  obtain ⟨U, ad, sl, S, d, sl', S', s, r, e, k⟩ := q
  unfold gFl at e
  split at e
  · rename_i ro sl2 S2 e2
    refine ⟨U, ad, sl, S, ro, sl2, S2, s, e2, fun ad2 H2 ov s2 n2 r2 => ?_⟩
    split at e
    · rename_i cc c' fs hob
      split at e
      · rename_i hh
        obtain ⟨rfl, hl⟩ := hh
        have e4 := Option.some.inj e
        obtain ⟨rfl, hx, q1, q2, q3, wr⟩ := s2.wrR r2 hob
        cases q3 with
        | @ins _ _ _ K dx gs h2 rf =>
          have h2' : X.mg c' = some _ := h2
          rw [hc] at h2'
          cases h2'
          have hw := wr (.ins c' (putFD f d fs)) (.ins Cl dx (putF f v gs)) True.intro (.ins h2 (RepF.put (Rep.mono n2.ext r) rf))
          rw [e4] at hw
          exact ⟨_, _, _, _, rfl, q1, cl, na, by rw [← rf.length]; exact hl, k ad2 _ σ hw.1 (n2.trans hw.2) Ch.refl⟩
      · cases e
    · cases e
  · cases e
end

/-! ### list(range(..)), tuple(range(..)) -/
def tRgs (C : Cf) (m : M (Int × Int)) : L2.St → Hp → (Int → Int → Hp → Prop) → Prop := fun σ H Q => ∃ U ad sl S p sl' S', Sim C U ad sl S σ H ∧ m sl S = some (p, sl', S') ∧ ∀ ad' H', Sim C U ad' sl' S' σ H' → Nx U ad sl S H ad' sl' S' H' → Q p.1 p.2 H'
def ERg (X : Cx) (e : Expr) (m : M (Int × Int)) : Prop := PRg X e (tRgs (cf X) m)
def rg1 (m : M D) : M (Int × Int) := mBind m fun d => fun sl S => match d with
  | .int j => some ((0, j), sl, S)
  | _ => none
def rg2 (m n : M D) : M (Int × Int) := mBind m fun d => mBind n fun e => fun sl S => match d, e with
  | .int i, .int j => some ((i, j), sl, S)
  | _, _ => none
def rgOkB (i j : Int) : Bool := bd i && bd j && decide ((j - i).toNat ≤ 2 ^ 24)
theorem rgOk_of {i j : Int} (h : rgOkB i j = true) : RgOk i j := by
  unfold rgOkB at h
  simp only [Bool.and_eq_true, decide_eq_true_eq] at h
  obtain ⟨h1, h2⟩ := bd_of h.1.1
  obtain ⟨h3, h4⟩ := bd_of h.1.2
  exact ⟨h1, h2, h3, h4, h.2⟩
def nLRg (m : M (Int × Int)) : M Ob := mBind m fun p => fun sl S => if rgOkB p.1 p.2 = true then some (.lst (rng p.1 (p.2 - p.1).toNat), sl, S) else none
def mTRg (m : M (Int × Int)) : M D := mBind m fun p => fun sl S => if rgOkB p.1 p.2 = true then some (.tup (rng p.1 (p.2 - p.1).toNat), sl, S) else none
def tTupRgF (te : L2.St → Hp → (Int → Int → Hp → Prop) → Prop) : TE := fun σ H Q => te σ H fun a b H1 => RgOk a b ∧ ∀ (q : Addr) (o : Obj), H1 q = none → o.dict = none → Q (.ref q) (upd H1 q (.frz o (.tup (rgV a b))))
section
variable {X : Cx} {a b e : Expr} {m n : M D} {mp : M (Int × Int)} {p pos : Pos}
theorem prg_imp {t t' : L2.St → Hp → (Int → Int → Hp → Prop) → Prop} (h : PRg X e t) (k : ∀ σ H Q, t' σ H Q → t σ H Q) : PRg X e t' := fun pins s σ H Q I q => h pins s σ H Q I (k σ H Q q)
theorem erg_1 (hg : Gl X "range") (hm : X.mg "range" = none) (ha : EE X a m) (na : starEach [a] X.env = (false, eval a X.env) :: starEach [] X.env := by rfl) : ERg X (.Call (.Name "range" p) [a] [] pos) (rg1 m) := prg_imp (prg_1 hg hm ha na) fun σ H Q q => by
  obtain ⟨U, ad, sl, S, pr, sl', S', s, e, k⟩ := q
  obtain ⟨d, sl1, S1, e1, e2⟩ := mBind_some e
  refine ⟨U, ad, sl, S, d, sl1, S1, s, e1, fun ad1 H1 v s1 n1 r1 => ?_⟩
  cases d <;> try (cases e2; done)
  cases e2
  cases r1
  exact ⟨_, rfl, k ad1 H1 s1 n1⟩
theorem erg_2 (hg : Gl X "range") (hm : X.mg "range" = none) (ha : EE X a m) (hb : EE X b n) (na : starEach [a, b] X.env = (false, eval a X.env) :: starEach [b] X.env := by rfl)
    (nb : starEach [b] X.env = (false, eval b X.env) :: starEach [] X.env := by rfl) (hp : (backTo pos (starEach [b] X.env)).any (·.1) = false := by rfl) : ERg X (.Call (.Name "range" p) [a, b] [] pos) (rg2 m n) := prg_imp (prg_2 hg hm ha hb na nb hp) fun σ H Q q => by
  obtain ⟨U, ad, sl, S, pr, sl', S', s, e, k⟩ := q
  obtain ⟨d, sl1, S1, e1, e2⟩ := mBind_some e
  obtain ⟨d2, sl2, S2, e3, e4⟩ := mBind_some e2
  refine ⟨U, ad, sl, S, d, sl1, S1, s, e1, fun ad1 H1 v s1 n1 r1 => ⟨U, ad1, sl1, S1, d2, sl2, S2, s1, e3, fun ad2 H2 w s2 n2 r2 => ?_⟩⟩
  cases d <;> cases d2 <;> try (cases e4; done)
  cases e4
  cases r1
  cases r2
  exact ⟨_, _, rfl, rfl, k ad2 H2 s2 (n1.trans n2)⟩
theorem rng_reps {C : Cf} {W : Addr → Prop} {al : Nat → Addr} {N : Nat} {H : Hp} {lo hi : Int} : Reps C W al N H (rng lo (hi - lo).toNat) (rgV lo hi) := by
  unfold rng rgV
  generalize List.range (hi - lo).toNat = l
  induction l with
  | nil => exact .nil
  | cons x xs ih => exact .cons (.int _) ih
theorem en_lrg (hc : X.calm = true) (hg : Gl X "list") (hm : X.mg "list" = none) (he : ERg X e mp) (na : starEach [e] X.env = (false, eval e X.env) :: starEach [] X.env := by rfl) : EN X (.Call (.Name "list" p) [e] [] pos) (nLRg mp) := pe_imp (pe_listRg hc hg hm he na) fun σ H Q q => by
  obtain ⟨U, ad, sl, S, ob, sl', S', s, e, k⟩ := q
  obtain ⟨pr, sl1, S1, e1, e2⟩ := mBind_some e
  split at e2
  · rename_i hb
    cases e2
    exact ⟨U, ad, sl, S, pr, _, _, s, e1, fun ad1 H1 s1 n1 => ⟨rgOk_of hb, fun q hq => k ad1 H1 q _ s1 n1 hq True.intro (.lst rng_reps)⟩⟩
  · cases e2
theorem pe_tupRgF (hc : X.calm = true) (hg : Gl X "tuple") (hm : X.mg "tuple" = none) {te : L2.St → Hp → (Int → Int → Hp → Prop) → Prop} (he : PRg X e te) (na : starEach [e] X.env = (false, eval e X.env) :: starEach [] X.env := by rfl) : PE X (.Call (.Name "tuple" p) [e] [] pos) (tTupRgF te) := by
  refine ⟨fun pins s σ H Q I h => ?_⟩
  refine Call_ (ld_blt I hg hm boot_tuple (PyProof.Rows.callWith_type1 (args_cons (thn (he pins s σ H _ I h) fun x s1 ⟨r, a, b, t, u, v, H1, ex, hr, I1, ok, q⟩ => args_nil ?_) na) na))
  subst ex
  obtain ⟨b1, b2, b3, b4, b5⟩ := ok
  refine call_tuple_range (n := (b - a).toNat) (I1.ok.hd hc) hr (small_one b1 b2 b3 b4) (rangeSize_nat a b) b5 fun h' tk acc hk hi => ?_
  have I2 : Inv X pins σ H1 { s1 with heap := h', toks := tk } := I1.kept hk
  have I3 := Inv.tnew (t' := tk) (its := acc.toList) I2 (vals_rg hi) (by rw [rgV_length, sizeLine_eq]; omega)
  exact ⟨.ref h'.objs.size, _, I3, rfl, q _ _ (I2.hok.fresh (Nat.le_refl _)) rfl⟩
theorem ee_trg (hc : X.calm = true) (hg : Gl X "tuple") (hm : X.mg "tuple" = none) (he : ERg X e mp) (na : starEach [e] X.env = (false, eval e X.env) :: starEach [] X.env := by rfl) : EE X (.Call (.Name "tuple" p) [e] [] pos) (mTRg mp) := pe_imp (pe_tupRgF hc hg hm he na) fun σ H Q q => by
  obtain ⟨U, ad, sl, S, d, sl', S', s, e, k⟩ := q
  obtain ⟨pr, sl1, S1, e1, e2⟩ := mBind_some e
  split at e2
  · rename_i hb
    cases e2
    exact ⟨U, ad, sl, S, pr, _, _, s, e1, fun ad1 H1 s1 n1 => ⟨rgOk_of hb, fun q o hq ho => finT s1 (fun ad2 H2 w s2 n2 r2 => k ad2 H2 w s2 (n1.trans n2) r2) rng_reps hq ho⟩⟩
  · cases e2
end

/-! ### t[::-1] of a tuple, a list -/
section
variable {prog : Program} {w : World} {A : Around} {E : Value → Shared → Prop} {s : Shared}
theorem rev_places (n : Nat) : Builtin.Slice.sliceAdjust none none (-1) (n : Int) = ((n : Int) - 1, -1) ∧ Builtin.Slice.slicePlaces ((n : Int) - 1) (-1) (-1) = n := by
  constructor
  · unfold Builtin.Slice.sliceAdjust
    simp
  · unfold Builtin.Slice.slicePlaces
    simp only [show ¬ ((-1 : Int) > 0) by decide, if_false]
    split
    · rw [show (-(-1 : Int)) = 1 from rfl, Int.ediv_one]; omega
    · omega
theorem sliceApplied_rev {sl : Addr} {t : Tok} {n : Nat} {Q : Int × Int × Nat → Shared → Prop} (hs : s.heap.IsSliceOf sl .none .none (.int (-1) t)) (h : Q ((n : Int) - 1, -1, n) s) : wpAny (model prog w) A (Builtin.Slice.sliceApplied (.ref sl) (pure (n : Int))) Q E s := by
  obtain ⟨os, hos, hcs, hds⟩ := id hs
  unfold Builtin.Slice.sliceApplied Builtin.Slice.sliceFields
  refine wpAny_bind (wpAny_bind (wpAny_field hos hds (x := .none) rfl (wpAny_bind (wpAny_field hos hds (x := .none) rfl (wpAny_bind (wpAny_field hos hds (x := .int (-1) t) rfl (wpAny_pure ?_)))))))
  refine wpAny_bind (HT.slicePart_ (.int (-1) t) ?_)
  show wpAny _ _ (if ((-1 : Int) == 0) = true then _ else _) _ _ s
  rw [if_neg (by decide)]
  refine wpAny_bind (slicePart_none (wpAny_bind (slicePart_none (wpAny_bind (wpAny_pure ?_)))))
  show wpAny _ _ (match Builtin.Slice.sliceAdjust none none (-1) (n : Int) with | (lo, hi) => pure (lo, (-1 : Int), Builtin.Slice.slicePlaces lo hi (-1))) _ _ s
  rw [(rev_places n).1]
  show wpAny _ _ (pure ((n : Int) - 1, (-1 : Int), Builtin.Slice.slicePlaces ((n : Int) - 1) (-1) (-1))) _ _ s
  rw [(rev_places n).2]
  exact wpAny_pure h
theorem fm_congr {α β : Type} {f g : α → Option β} : ∀ {l : List α}, (∀ m ∈ l, f m = g m) → l.filterMap f = l.filterMap g
  | [], _ => rfl
  | x :: xs, h => by rw [List.filterMap_cons, List.filterMap_cons, h x (List.mem_cons_self ..), fm_congr fun m hm => h m (List.mem_cons_of_mem _ hm)]
theorem rev_pick (xs : Array Value) : ((List.range xs.size).filterMap fun (m : Nat) => xs[(((xs.size : Int) - 1) + (m : Int) * (-1)).toNat]?).toArray = xs.toList.reverse.toArray := by
  congr 1
  have key : ∀ (l : List Value) , (List.range l.length).filterMap (fun (m : Nat) => l[(((l.length : Int) - 1) + (m : Int) * (-1)).toNat]?) = l.reverse := by
    intro l
    refine List.ext_getElem? fun i => ?_
    have hmap : (List.range l.length).filterMap (fun (m : Nat) => l[(((l.length : Int) - 1) + (m : Int) * (-1)).toNat]?) = (List.range l.length).filterMap (fun m => some (l.reverse.getD m .none)) := by
      refine fm_congr fun m hm => ?_
      have hm' : m < l.length := List.mem_range.mp hm
      have e1 : (((l.length : Int) - 1) + (m : Int) * (-1)).toNat = l.length - 1 - m := by omega
      rw [e1, List.getD_eq_getElem?_getD, List.getElem?_reverse hm']
      rw [List.getElem?_eq_getElem (by omega)]
      rfl
    rw [hmap, List.filterMap_eq_map', List.getElem?_map]
    by_cases hi : i < l.length
    · rw [List.getElem?_range hi, Option.map_some, List.getD_eq_getElem?_getD, List.getElem?_eq_getElem (by simpa using hi)]
      rfl
    · rw [List.getElem?_eq_none (by simpa using hi), List.getElem?_eq_none (by simpa using hi)]
      rfl
  have e := key xs.toList
  simpa using e
open HT in
theorem getItem_tuple_rev {t sl : Addr} {items : Array Value} {tk : Tok} {Q : Value → Shared → Prop} (ht : IsTup s.heap t items) (hs : s.heap.IsSliceOf sl .none .none (.int (-1) tk))
    (h : Q (.ref s.heap.objs.size) { s with heap := s.heap.push { cls := .type "tuple", data := .seq items.toList.reverse.toArray } }) (hsz : items.size ≤ sizeLine) : wpAny (model prog w) A (getItem (.ref t) (.ref sl)) Q E s := by
  have htake : sizeOk (.seq items.toList.reverse.toArray) := by
    show items.toList.reverse.toArray.size ≤ sizeLine
    rw [List.size_toArray, List.length_reverse, Array.length_toList]
    exact hsz
  obtain ⟨os, hos, hcs, hds⟩ := id hs
  have hTs : s.TypeIs (.ref sl) "slice" := ⟨os, hos, hcs⟩
  unfold getItem
  try with_reducible refine wpAny_holding ?_
  first | refine wpAny_bind (wpAny_pure ?_) | skip
  refine wpAny_bind (wpAny_sequenceKey ht.typeIs (by decide) ?_)
  refine wpAny_bind (wpAny_callSpecial?_slot (name := Str.ofString "__getitem__") ht.typeIs PyProof.Rows.slot_tuple_getitem
    (wpAny_call_entry PyProof.Rows.slot_tuple_getitem ht.typeIs entry_tuple_getitem ?_ (args_tuple_getitem _ _)))
  show wpAny _ _ (Builtin.Tuple.tupleItemsOf (.ref t) >>= _) _ _ s
  refine wpAny_bind (tupleItemsOf_ ht ?_)
  refine wpAny_bind (wpAny_typeOf hTs ?_)
  rw [if_pos (by decide)]
  refine wpAny_bind (sliceApplied_rev hs ?_)
  show wpAny _ _ (if (((items.size : Int) - 1) == 0 && (-1 : Int) == 1 && items.size == items.size) = true then _ else _) _ _ s
  rw [if_neg (by simp), rev_pick]
  first
    | exact wpAny_bind (m := Builtin.Tuple.tupleExact _) (wpAny_newObj_type (wpAny_pure ⟨_, rfl, wpAny_pure h⟩) htake)
    | exact wpAny_bind (m := Builtin.Tuple.tupleExact _) (wpAny_newObj_type (wpAny_bind (wpAny_pure (wpAny_pure ⟨_, rfl, wpAny_pure h⟩))) htake)
    | exact wpAny_bind (wpAny_bind (m := Builtin.Tuple.tupleExact _) (wpAny_newObj_type (wpAny_pure (wpAny_pure ⟨_, rfl, wpAny_pure h⟩)) htake))
    | exact wpAny_bind (wpAny_bind (m := Builtin.Tuple.tupleExact _) (wpAny_newObj_type (wpAny_pure ⟨_, rfl, wpAny_pure h⟩) htake))
end
def tRevG (K : PySem.W.Frag) (te : TE) : TE := fun σ H Q => te σ H fun x H1 => ∃ a xs, x = .ref a ∧ ((SqL K H1 a xs ∧ ∀ p, H1 p = none → Q (.ref p) (upd H1 p (.lst xs.reverse))) ∨ (SqT K H1 a xs ∧ ∀ (p : Addr) (o : Obj), H1 p = none → o.dict = none → Q (.ref p) (upd H1 p (.frz o (.tup xs.reverse)))))
theorem vals_rev {xs : List V} {us : List Value} (h : Vals xs us) : Vals xs.reverse us.reverse := L2.Vals.reverse h
theorem pe_revG {X : Cx} {e : Expr} {te : TE} {k : Nat} {p1 p2 p3 pos : Pos} (he : PE X e te) : PE X (.Subscript e (.Slice none none (some (.UnaryOp .USub (.Constant (.int 1) k p1) p2)) p3) pos) (tRevG X.K te) := by
  refine ⟨fun pins s σ H Q I h => ?_⟩
  refine Subscript_ (thn (he.run pins s σ H _ I h) fun v s1 ⟨x, H1, I1, r1, q1⟩ => ?_)
  obtain ⟨a, xs, ex, q⟩ := q1
  subst ex
  cases r1
  have hst : PO X (some (.UnaryOp .USub (.Constant (.int 1) k p1) p2)) (tPart (tUn (rU fun i => .int (-i)) (tC (.int 1)))) := po_some (pe_un un_neg pe_int)
  refine wpAny_Slice (thn (po_none.run pins s1 σ H1 (fun o H2 => o = none ∧ H2 = H1) I1 ⟨rfl, rfl⟩) fun vl s2 ⟨l, H2, I2, pl, el, e2⟩ => ?_)
  subst el e2
  refine thn (po_none.run pins s2 σ H2 (fun o H3 => o = none ∧ H3 = H2) I2 ⟨rfl, rfl⟩) fun vu s3 ⟨u, H3, I3, pu, eu, e3⟩ => ?_
  subst eu e3
  refine thn (hst.run pins s3 σ H3 (fun o H4 => o = some (-1) ∧ H4 = H3) I3 ⟨1, rfl, -1, rfl, rfl, rfl⟩) fun vs s4 ⟨o, H4, I4, ps, eo, e4⟩ => ?_
  subst eo e4
  have I5 : Inv X pins σ H4 { s4 with heap := s4.heap.push { cls := .type "slice", data := .fields #[vl, vu, vs] } } := I4.kept (t' := s4.toks) fun b ob q => Heap.get?_push_of_some _ q
  show wpAny (model X.prog X.w) X.A (subscriptTail e (.Slice none none (some (.UnaryOp .USub (.Constant (.int 1) k p1) p2)) p3) (.ref a) (.ref s4.heap.objs.size)) (EP X pins σ Q) X.xe { s4 with heap := s4.heap.push { cls := .type "slice", data := .fields #[vl, vu, vs] } }
  rcases q with ⟨hx, q⟩ | ⟨hx, q⟩
  · obtain ⟨its, r, ht, hz⟩ := I5.list hx
    have hlen := r.length
    refine tail_any (ops := [.ref a, .ref s4.heap.objs.size]) ht.isList.typeIs (PySem.slot_list_getitem.lookup) ?_ (by with_unfolding_all rfl)
    refine wpAny_getItem_list_slice ht.isList (Heap.IsSliceOf.new _ vl vu vs) pl pu ps (by decide) ?_ (by rw [List.size_toArray]; omega)
    rw [PySem.W.krv_pick]
    refine ⟨.ref _, _, I5.laid (t' := s4.toks) (o := .lst xs.reverse) (fun b ob q => Heap.get?_push_of_some _ q) (Nat.le_refl _) ?_, rfl, q _ (I5.hok.fresh (Nat.le_refl _))⟩
    exact ⟨by rw [List.length_reverse]; exact hz, its.reverse, 0, vals_rev r, Heap.get?_push_size _ rfl⟩
  · obtain ⟨its, r, ht, hz⟩ := I5.tuple hx
    have hlen := r.length
    cases pl
    cases pu
    cases ps with
    | int i t =>
      refine tail_any (ops := [.ref a, .ref s4.heap.objs.size]) ht.typeIs (PyProof.Rows.slot_tuple_getitem.lookup) ?_ (by with_unfolding_all rfl)
      refine getItem_tuple_rev ht (Heap.IsSliceOf.new _ _ _ _) ?_ (by rw [List.size_toArray]; omega)
      have e6 : its.toArray.toList.reverse.toArray = its.reverse.toArray := by simp
      rw [e6]
      exact ⟨.ref _, _, Inv.tnew (t' := s4.toks) I5 (vals_rev r) (by rw [List.length_reverse]; exact hz), rfl, q _ _ (I5.hok.fresh (Nat.le_refl _)) rfl⟩
def mRev (mr : M Rf) : M D := mBind mr fun r => fun sl S => match vw sl S r with
  | some (.lst ds) => some (.lst ds.reverse, sl, S)
  | some (.tup ds) => some (.tup ds.reverse, sl, S)
  | _ => none
section
variable {X : Cx} {e : Expr} {mr : M Rf} {k : Nat} {p1 p2 p3 pos : Pos}
theorem ee_rev (he : ER X e mr) : EE X (.Subscript e (.Slice none none (some (.UnaryOp .USub (.Constant (.int 1) k p1) p2)) p3) pos) (mRev mr) := pe_imp (pe_revG he) fun σ H Q q => by
  refine tX_bind q fun U ad sl S r d sl' S' H1 v s rr e k => ?_
  split at e
  · rename_i ds hv
    cases e
    cases s.view rr hv with
    | lst h r => exact ⟨_, _, rfl, .inl ⟨h, fun p hp => finL s k r.reverse hp⟩⟩
  · rename_i ds hv
    cases e
    cases s.view rr hv with
    | tup h r _ => exact ⟨_, _, rfl, .inr ⟨h, fun p o hp ho => finT s k r.reverse hp ho⟩⟩
  · cases e
end
end PS

namespace PS
open PySem PySem.Spec PyProof.Rows L2

/-! ### a text's defs -/
structure FOk (P : Program) (w : World) (K : PySem.W.Frag) (mg : Str → Option Value) (base : Heap) (k : Nat) (f : Addr) (ps : List Str) (g : FD) : Prop where
  ex : ∃ fd, FnOk P w K mg base CX0 k f fd ps (spOf ⟨P, w, K, mg⟩ g) ∧ Binds K fd ps [] ∧ ∃ oc od osl, K.lookup f = some ⟨oc, od, .func fd, osl⟩
  kp : PySem.W.keepIn K (.ref f) = true
section
variable {P : Program} {w : World} {K : PySem.W.Frag} {mg : Str → Option Value} {base : Heap} {k j : Nat} {f : Addr} {ps : List Str} {g : FD}
theorem FOk.mono (F : FOk P w K mg base j f ps g) (h : j ≤ k) : FOk P w K mg base k f ps g := ⟨let ⟨fd, h1, h2⟩ := F.ex; ⟨fd, h1.mono h, h2⟩, F.kp⟩
theorem FOk.rel (F : FOk P w K mg base k f ps g) : FOk P w K mg base k f ps (relF g) := ⟨let ⟨fd, h1, h2⟩ := F.ex; ⟨fd, fnR h1, h2⟩, F.kp⟩
theorem owns {N : List Str} {qual : Str} {scope : Scope} {f : Addr} {cdv : Value} {A : Around} {outer : List Env} {s : Shared} {H : Hp} {E : XK} :
    PassesOwn (model P w) (cxOf CX0 P w K mg base N qual scope f cdv A outer s H E).A (cxOf CX0 P w K mg base N qual scope f cdv A outer s H E).env (cxOf CX0 P w K mg base N qual scope f cdv A outer s H E).xe := passes_of (X := cxOf CX0 P w K mg base N qual scope f cdv A outer s H E) rfl
theorem fok {x qual : Str} {params : Arguments} {body : List Stmt} {scope : Scope} {N : List Str} {b : MS} (F : ∃ fd, FunD K x qual params body scope [] [] f fd) (S : FnScope N ps scope)
    (hb : ∀ (kV doc pm : Value) (an : Option Addr) (cdv ct : Value) (us : List Value), us.length = ps.length → bindArgs (PySem.W.fnOf x qual params body scope .none kV doc pm an cdv ct) ⟨us, []⟩ = pure (ps.zip us))
    (hbody : ∀ (cdv : Value) (A : Around) (outer : List Env) (s : Shared) (H : Hp) (E : XK), Room k (A.deeper (envOfC qual scope s.heap.objs.size f cdv)) → ESs (cxOf CX0 P w K mg base N qual scope f cdv A outer s H E) body b) :
    FOk P w K mg base (k + 1) f ps (runB ps.length N.length b) := by
  obtain ⟨fd, F⟩ := F
  have hB : Binds K fd ps [] := FunD.bindsN F hb
  refine ⟨?_, F.kp⟩
  obtain ⟨oc, od, dV, kV, doc, pm, an, cdv, ct, osl, rfl, lk, hcd, _, _⟩ := F.ex
  exact ⟨_, fnK lk hcd S fun A outer s H E hr => hbody cdv A outer s H E hr, hB, _, _, _, lk⟩
/-- never: level 0 of a def that calls itself -/
theorem fok0 {x qual : Str} {params : Arguments} {body : List Stmt} {scope : Scope} (F : ∃ fd, FunD K x qual params body scope [] [] f fd)
    (hb : ∀ (kV doc pm : Value) (an : Option Addr) (cdv ct : Value) (us : List Value), us.length = ps.length → bindArgs (PySem.W.fnOf x qual params body scope .none kV doc pm an cdv ct) ⟨us, []⟩ = pure (ps.zip us)) : FOk P w K mg base k f ps (fun _ _ => none) := by
  obtain ⟨fd, F⟩ := F
  have hB : Binds K fd ps [] := FunD.bindsN F hb
  refine ⟨?_, F.kp⟩
  obtain ⟨oc, od, dV, kV, doc, pm, an, cdv, ct, osl, rfl, lk, hcd, _, _⟩ := F.ex
  refine ⟨_, ⟨fun vs H Q E h => ?_, fun A outer s H args us vs Q E _ _ _ _ h => ?_⟩, hB, _, _, _, lk⟩
  · obtain ⟨U, ad, S, ds, d, S', _, _, e, _⟩ := h
    cases e
  · obtain ⟨U, ad, S, ds, d, S', _, _, e, _⟩ := h
    cases e
end
section
variable {X : Cx} {k j : Nat} {f Cl : Addr} {ps : List Str} {x m c : Str} {p pos apos : Pos} {e o : Expr} {es : List Expr} {ma : M (List D)} {mr : M D} {g : FD}
theorem ee_F (F : FOk X.prog X.w X.K X.mg X.base j f ps g) (hr : Room k X.A) (hj : j ≤ k) (hg : Gl X x) (hm : X.mg x = some (.ref f)) (ha : EA X (e :: es) ma) (hdb : (x == ("__debug__" : Str)) = false := by decide)
    (he : starEach (e :: es) X.env = (false, eval e X.env) :: starEach es X.env := by rfl) (hpl : (backTo pos (starEach es X.env)).any (·.1) = false := by rfl) : EE X (.Call (.Name x p) (e :: es) [] pos) (mCall g [] ma) :=
  let ⟨_, h1, h2, _⟩ := F.ex
  ee_call h1 (hr.mono hj) hg hm F.kp h2 .nil cst_nil rfl ha hdb he hpl
theorem ee_F0 (F : FOk X.prog X.w X.K X.mg X.base j f ps g) (hr : Room k X.A) (hj : j ≤ k) (hg : Gl X x) (hm : X.mg x = some (.ref f)) (hdb : (x == ("__debug__" : Str)) = false := by decide) : EE X (.Call (.Name x p) [] [] pos) (mCall g [] aN) :=
  let ⟨_, h1, h2, _⟩ := F.ex
  ee_call0 h1 (hr.mono hj) hg hm F.kp h2 .nil cst_nil rfl hdb
theorem ee_M {pl : Sem Bool} (he : EE X o mr) (hc : X.mg c = some (.ref Cl)) (cl : Cls X.K Cl) (hm : Meth X.K Cl m f) (F : FOk X.prog X.w X.K X.mg X.base j f ps g) (hr : Room k X.A) (hj : j ≤ k) (ha : EA X (e :: es) ma)
    (hst : starEach (e :: es) X.env = (false, eval e X.env) :: starEach es X.env := by rfl) (hpl : (backTo pos (starEach es X.env)).any (·.1) = false := by rfl)
    (ht : eval (.Call (.Attribute o m apos) (e :: es) [] pos) X.env = (do
      let ov ← eval o X.env
      standAt apos.atName
      let (f, first) ← holding [ov] (getMethod ov m pl)
      callWith pos f first (backTo pos (starEach (e :: es) X.env)) (backToKw pos (keywordEach [] X.env))) := by rfl) : EE X (.Call (.Attribute o m apos) (e :: es) [] pos) (mMeth c m g [] mr ma) :=
  let ⟨_, h1, h2, _⟩ := F.ex
  ee_meth he hc cl hm h1 (hr.mono hj) h2 .nil cst_nil rfl ha hst hpl ht
theorem ee_M0 {pl : Sem Bool} (he : EE X o mr) (hc : X.mg c = some (.ref Cl)) (cl : Cls X.K Cl) (hm : Meth X.K Cl m f) (F : FOk X.prog X.w X.K X.mg X.base j f ps g) (hr : Room k X.A) (hj : j ≤ k)
    (ht : eval (.Call (.Attribute o m apos) [] [] pos) X.env = (do
      let ov ← eval o X.env
      standAt apos.atName
      let (f, first) ← holding [ov] (getMethod ov m pl)
      callWith pos f first (backTo pos (starEach [] X.env)) (backToKw pos (keywordEach [] X.env))) := by rfl) : EE X (.Call (.Attribute o m apos) [] [] pos) (mMeth c m g [] mr aN) :=
  let ⟨_, h1, h2, _⟩ := F.ex
  ee_meth0 he hc cl hm h1 (hr.mono hj) h2 .nil cst_nil rfl ht
theorem ee_K (M : Mk X.K Cl f) (F : FOk X.prog X.w X.K X.mg X.base j f ps g) (hr : Room k X.A) (hj : j + 1 ≤ k) (hg : Gl X x) (hm : X.mg x = some (.ref Cl)) (ha : EA X (e :: es) ma) (hdb : (x == ("__debug__" : Str)) = false := by decide)
    (he : starEach (e :: es) X.env = (false, eval e X.env) :: starEach es X.env := by rfl) (hpl : (backTo pos (starEach es X.env)).any (·.1) = false := by rfl) : EE X (.Call (.Name x p) (e :: es) [] pos) (mCall (mkK x g) [] ma) :=
  let ⟨_, h1, h2, _⟩ := F.ex
  ee_mk M h1 (hr.mono hj) hg hm h2 .nil cst_nil rfl ha hdb he hpl
/-- a module's constant -/
theorem ee_gS {x : Str} {z : Str} {pos : Pos} (hg : Gl X x) (h : ∃ t, X.mg x = some (.str z t)) (hdb : (x == ("__debug__" : Str)) = false := by decide) : EE X (.Name x pos) (cs (.str z)) :=
  let ⟨_, hm⟩ := h
  ee_glob (v := .str z) hg hm ⟨_, rfl⟩ (fun _ _ _ _ _ _ _ => .str z) hdb
theorem ee_gI {x : Str} {z : Int} {pos : Pos} (hg : Gl X x) (h : ∃ t, X.mg x = some (.int z t)) (hdb : (x == ("__debug__" : Str)) = false := by decide) : EE X (.Name x pos) (cs (.int z)) :=
  let ⟨_, hm⟩ := h
  ee_glob (v := .int z) hg hm ⟨_, rfl⟩ (fun _ _ _ _ _ _ _ => .int z) hdb
end
/-- the law's end -/
theorem law_end {P : Program} {w : World} {K : PySem.W.Frag} {mg : Str → Option Value} {f : FD} {H : Hp} {a : Addr} {ns : List Int} {E : XK} (hS : SqL K H a (ns.map V.int)) (h : ∃ S', f [.lst (ns.map D.int)] [] = some (.bl true, S')) :
    spOf ⟨P, w, K, mg⟩ f [.ref a] H (fun v _ => v = .bl true) E := by
  obtain ⟨S', e⟩ := h
  have nw : ∀ b, ¬ Wr (fun _ => False) (fun _ => 0) [] [] b := fun b z => by
    rcases z with z | ⟨c, ob, z, _⟩
    · exact z
    · cases c <;> simp [objAt] at z
  have ri : ∀ l : List Int, Reps ⟨P, w, K, mg⟩ (Wr (fun _ => False) (fun _ => 0) [] []) (lc fun _ => 0) 0 H (l.map D.int) (l.map V.int) := fun l => by
    induction l with
    | nil => exact .nil
    | cons x xs ih => exact .cons (.int _) ih
  refine ⟨fun _ => False, fun _ => 0, [], [.lst (ns.map D.int)], .bl true, S', ⟨rfl, fun c ob q => ?_, fun i sv q => by simp at q, fun c c' o1 o2 q => ?_, fun c ob q => ?_, fun b z => z.elim⟩, ?_, e, fun ad' H' v s n r => ?_⟩
  · cases c <;> simp [objAt] at q
  · cases c <;> simp [objAt] at q
  · cases c <;> simp [objAt] at q
  · refine .cons ?_ .nil
    rcases hS with hS | hS
    · exact .lst (nw a) hS (.lst (ri ns))
    · exact .klst hS (ri ns)
  · cases r; rfl
/-- the law's def, for the head -/
theorem law_facts {P : Program} {w : World} {K : PySem.W.Frag} {mg : Str → Option Value} {k : Nat} {f : Addr} {g : FD} {x qual x0 : Str} {params : Arguments} {body : List Stmt} {scope : Scope} (F : ∃ fd, FunD K x qual params body scope [] [] f fd)
    (hb : ∀ (kV doc pm : Value) (an : Option Addr) (cdv ct : Value) (us : List Value), us.length = [x0].length → bindArgs (PySem.W.fnOf x qual params body scope .none kV doc pm an cdv ct) ⟨us, []⟩ = pure ([x0].zip us))
    (hF : ∀ base : Heap, K.In base → base.Ns mainGlobals mg → FOk P w K mg base k f [x0] g) :
    ∃ fd : FuncData, (∀ (s : Shared) (v : Value), BindsTo s fd ⟨[v], []⟩ [(x0, v)]) ∧ ∀ base : Heap, K.In base → base.Ns mainGlobals mg → FnOk P w K mg base CX0 k f fd [x0] (spOf ⟨P, w, K, mg⟩ g) := by
  obtain ⟨fd, F⟩ := F
  have b := FunD.bindsA F hb
  refine ⟨fd, fun s v => b s [v] rfl, fun base h1 h2 => ?_⟩
  obtain ⟨fd', q1, _, oc, od, osl, q2⟩ := (hF base h1 h2).ex
  obtain ⟨oc2, od2, _, _, _, _, _, _, _, osl2, _, lk, _⟩ := F.ex
  rw [lk] at q2
  cases q2
  exact q1
end PS

namespace PS
open PySem PySem.Spec PyProof.Rows L2

/-! ### enumerate(tuple) -/
theorem meets_enum1B {v : Value} {o : Obj} {H : Heap → Prop} (B : Begins v o H) :
    Meets (Builtin.«enumerate.__new__» ⟨[.type "enumerate", v], []⟩) (fun _ R s => H s.heap ∧
      R (.ok (.ret (.ref (s.heap.push o).objs.size))) { s with heap := (s.heap.push o).push { cls := .type "enumerate", data := .fields #[.none, .bool false, .ref s.heap.objs.size, rawInt 0, .none, .none] } }) :=
  .of_wp fun prog w A R s h => by
    obtain ⟨hp, g, d, tk, os⟩ := s; obtain ⟨h1, h⟩ := h
    have hsub := sub_enumerate
    have q1 : ∀ {A' : Around} {E : Value → Shared → Prop} {Q : Value → Shared → Prop}, Q (.ref hp.objs.size) ⟨hp.push o, g, d, tk, os⟩ → wpAny (model prog w) A' (pyIter v) Q E ⟨hp, g, d, tk, os⟩ :=
      fun q => B.iter prog w _ _ ⟨hp, g, d, tk, os⟩ _ h1 q
    wp_walk using q1
    refine wpAny_stack_any fun st => wpAny_pure ?_
    split
    · rename_i c _ _ _ _ _
      cases (c == Value.type "enumerate")
      · wp_walk using q1
        exact ⟨_, rfl, h⟩
      · wp_walk using q1
        exact ⟨_, rfl, h⟩
    · wp_walk using q1
      exact ⟨_, rfl, h⟩
theorem call_enumB {prog : Program} {w : World} {A : Around} {E : Value → Shared → Prop} {s : Shared} {v : Value} {o : Obj} {H : Heap → Prop} {Q : Value → Shared → Prop} (B : Begins v o H) (h1 : H s.heap)
    (h : ∀ h', IsEnum h' (s.heap.objs.size + 1) s.heap.objs.size 0 .none → h'.get? s.heap.objs.size = some o → h'.objs.size = s.heap.objs.size + 2 →
      (∀ b o, s.heap.get? b = some o → h'.get? b = some o) → Q (.ref (s.heap.objs.size + 1)) { s with heap := h' }) :
    wpAny (model prog w) A (call (.type "enumerate") [v]) Q E s := by
  refine callType_new F.called_enumerate (by decide) (F.typeCall_enumerate_1 _) (F.newCall_enumerate_1 _) (fun obj => F.args_object_init_2 obj _) F.entry_enumerate_new
    (meets_enum1B B) ⟨h1, ?_⟩
  have hz : (s.heap.push o).objs.size = s.heap.objs.size + 1 := Heap.size_push ..
  show _ ∧ _
  rw [hz]
  have he : IsEnum ((s.heap.push o).push { cls := .type "enumerate", data := .fields #[.none, .bool false, .ref s.heap.objs.size, rawInt 0, .none, .none] }) (s.heap.objs.size + 1) s.heap.objs.size 0 .none := by
    have := Heap.get?_push_size (s.heap.push o) (o := { cls := .type "enumerate", data := .fields #[.none, .bool false, .ref s.heap.objs.size, rawInt 0, .none, .none] }) rfl
    rw [hz] at this; exact this
  refine ⟨⟨_, he, rfl⟩, h _ he (Heap.get?_push_of_some _ (Heap.get?_push_size _ B.free)) (by rw [Heap.size_push, hz]) fun b o x => Heap.get?_push_of_some _ (Heap.get?_push_of_some _ x)⟩
/-- the tuple at a, each item in a new pair -/
def IteT (K : PySem.W.Frag) (a : Addr) : It :=
  ⟨fun i H => ∃ (xs : List V) (x : V), SqT K H a xs ∧ xs[i]? = some x, fun i H v H' => ∃ T x, v = .ref T ∧ H T = none ∧ H' = upd H T (.tup [.int (i : Nat), x]) ∧ ∀ xs, SqT K H a xs → xs[i]? = some x, fun i H => ∃ xs : List V, SqT K H a xs ∧ xs.length ≤ i⟩
theorem turn_enumT {P : Program} {w : World} {K : PySem.W.Frag} {elts : List Expr} {kk : Nat} {tpos : Pos} (a e it : Addr) :
    Turn P w K (.Tuple elts kk tpos) (IteT K a) [e, it] e (fun i h => (∃ old, IsEnum h e it ((i : Nat) : Int) old) ∧ h.IsTupleIter it a i ∧ e ≠ it) where
  mem := by simp
  obj := fun i h st b hb => by
    obtain ⟨⟨old, he⟩, ⟨o, ho, hc, hd⟩, _⟩ := st
    have e' : b = e ∨ b = it := by simpa using hb
    rcases e' with z | z
    · rw [z]; exact ⟨_, he, fun v q => nomatch q⟩
    · rw [z]; exact ⟨o, ho, fun v q => by rw [hd] at q; cases q⟩
  keep := fun i h h' st k => let ⟨⟨old, he⟩, hi, hne⟩ := st; ⟨⟨old, k e (by simp) _ he⟩, hi.at fun o q => k it (by simp) o q, hne⟩
  item := by
    intro X hP hw hK hc i pins s σ H E I hf st hg
    subst hP hw hK
    obtain ⟨⟨old, he⟩, hit, hne⟩ := st
    obtain ⟨xs, x, hq, hx⟩ := hg
    obtain ⟨its, rv, p, hz⟩ := I.tuple hq
    obtain ⟨u, hu, ru⟩ := rv.get hx
    have hel : e < s.heap.objs.size := Heap.lt_size he
    have hil : it < s.heap.objs.size := by obtain ⟨_, q, _⟩ := hit; exact Heap.lt_size q
    have hae : e ≠ a := fun z => by
      obtain ⟨o, ho, hc', _⟩ := p
      rw [← z, he] at ho
      cases ho
      injection hc' with q
      exact absurd q (by decide)
    have hai : a ≠ it := fun z => by
      obtain ⟨o, ho, hc', _⟩ := p
      obtain ⟨o2, ho2, hc2, _⟩ := hit
      rw [z, ho2] at ho
      cases ho
      rw [hc2] at hc'
      injection hc' with q
      exact absurd q (by decide)
    have hlt : i < its.toArray.size := by
      have := (List.getElem?_eq_some_iff.mp hu).1
      simpa using this
    refine wpAny_pyNext_enum_itemD (Draws.tuple (A := X.A.in1) (show X.A.in1.handled = none from I.ok.hd hc) it a hai its.toArray) he ⟨hit, p⟩ hlt hne (by simp [hne, hae]) fun x' h' tk hP ho hst hT hsz hk => ?_
    have ex : x' = u := by
      have : its.toArray[i]? = some u := by simpa using hu
      rw [this] at hP; exact (Option.some.inj hP).symm
    subst ex
    refine ⟨_, rfl, wpAny_letOwnedTupleGo_enum (s := { s with heap := h', toks := tk + 1 }) ho fun h'' he' sb => ?_⟩
    have hT2 : h''.get? s.heap.objs.size = some { cls := .type "tuple", data := .seq #[.int i tk, x'] } := (sb.2 _ (Nat.ne_of_gt hel)).trans hT
    have new : ObjOk X.prog X.w (upd H s.heap.objs.size (.tup [.int (i : Nat), x])) h'' s.heap.objs.size (.tup [.int (i : Nat), x]) :=
      ⟨by show 2 ≤ sizeLine; decide, [.int i tk, x'], .cons ⟨_, rfl⟩ (.cons ru .nil), ⟨_, hT2, rfl, _, rfl⟩⟩
    have I1 : Inv X pins σ (upd H s.heap.objs.size (.tup [.int (i : Nat), x])) { s with heap := h'', toks := tk + 1 } :=
      I.turnedNew (ch := [e, it]) (fun b ob hb q => (sb.2 b (fun z => hb (by simp [z]))).trans (hk b ob (fun z => hb (by simp [z])) (fun z => hb (by simp [z])) q)) hf (Nat.le_refl _) new
    refine ⟨.ref s.heap.objs.size, _, I1, rfl, ⟨_, x, rfl, I.hok.fresh (Nat.le_refl _), rfl, fun ys hy => by rw [I.tuple_inj hy hq]; exact hx⟩, ⟨⟨x', ?_⟩, hst.1.at fun o q => (sb.2 it (Ne.symm hne)).trans q, hne⟩, fun b hb => ?_⟩
    · have e1 : ((i + 1 : Nat) : Int) = (i : Int) + 1 := by omega
      rw [e1]; exact he'
    · have hb' : b < s.heap.objs.size := by
        have e' : b = e ∨ b = it := by simpa using hb
        rcases e' with z | z
        · rw [z]; exact hel
        · rw [z]; exact hil
      rw [upd_ne (Nat.ne_of_lt hb')]
      exact (hf b hb).1
  done := by
    intro X hP hw hK hc i pins s σ H E I hf st hg
    subst hP hw hK
    obtain ⟨⟨old, he⟩, hit, hne⟩ := st
    obtain ⟨xs, hq, hx⟩ := hg
    obtain ⟨its, rv, p, hz⟩ := I.tuple hq
    obtain ⟨f0, f1, f2, f3, f4, f5⟩ := hf it (by simp)
    have hl := rv.length
    have hT : s.TypeIs (.ref e) "enumerate" := ⟨_, he, rfl⟩
    unfold pyNext
    refine wpAny_bind (wpAny_attempt (wpAny_callSpecial?_slot (name := Str.ofString "__next__") hT F.slot_enumerate_next
      (wpAny_call_entry F.slot_enumerate_next hT F.entry_enumerate_next ?_ (F.args_enumerate_next_1 _))))
    show wpAny _ _ (field (.ref e) 2 >>= _) _ _ _
    refine wpAny_bind (wpAny_field he rfl (x := .ref it) rfl ?_)
    refine wpAny_bind (wpAny_nextOf_tuple_end (I.ok.hd hc) hit p (by simp; omega) fun h' x he' hx' => ?_)
    obtain ⟨o, ho, hc⟩ := hx'
    refine wpAny_bind (wpAny_isInstance (T := "StopIteration") (b := true) ⟨o, ho, hc⟩ isSubtype_stop ?_)
    exact wpAny_pure ⟨rfl, I.turned (t' := s.toks) (fun b o hb q => he' b o hb q) f0 f1 f3 f4 f5⟩
  self := fun A i s Q E st h => let ⟨⟨_, he⟩, _⟩ := st; wpAny_pyIter_enum he h
def iEnumA (K : PySem.W.Frag) (ta : TA) : TI := fun σ H R => ta σ H fun vs H1 => ∃ a xs, vs = [.ref a] ∧ ((SqL K H1 a xs ∧ R (Ite K a) H1) ∨ (SqT K H1 a xs ∧ R (IteT K a) H1))
theorem pi_enumA {X : Cx} {e : Expr} {ta : TA} {p pos tpos : Pos} {elts : List Expr} {kk : Nat} (hg : Gl X "enumerate") (hm : X.mg "enumerate" = none) (ha : PA X [e] ta) (hs : starEach [e] X.env = [(false, eval e X.env)] := by rfl) :
    PI X (.Tuple elts kk tpos) (.Call (.Name "enumerate" p) [e] [] pos) (iEnumA X.K ta) := by
  refine ⟨fun pins s σ H R I h => ?_⟩
  refine Call_ (ld_blt I hg hm boot_enumerate (PyProof.Rows.callWith_type1 (thn (ha.run pos pins s σ H _ I h) fun us s1 ⟨vs, H1, I1, r1, q1⟩ => ?_) hs rfl))
  obtain ⟨a, xs, ex, hq⟩ := q1
  subst ex
  cases r1 with
  | cons r rr =>
    cases rr
    cases r
    have fpk : ∀ b ∈ [s1.heap.objs.size + 1, s1.heap.objs.size], FpOk X pins H1 b := fun b hb => by
      have e' : b = s1.heap.objs.size + 1 ∨ b = s1.heap.objs.size := by simpa using hb
      have hle : s1.heap.objs.size ≤ b := by
        rcases e' with z | z
        · rw [z]; exact Nat.le_add_right _ _
        · rw [z]; exact Nat.le_refl _
      exact I1.fpOk hle (I1.hok.fresh hle)
    rcases hq with ⟨hq, q⟩ | ⟨hq, q⟩
    · obtain ⟨its, rv, p', hz⟩ := I1.list hq
      refine call_enumerate_list p'.isList fun h' he hit hsz hk => wpAny_pyIter_enum he ?_
      have I2 : Inv X pins σ H1 { s1 with heap := h' } := I1.kept (t' := s1.toks) hk
      exact ⟨s1.heap.objs.size + 1, [s1.heap.objs.size + 1, s1.heap.objs.size], _, _, H1, rfl, I2, turn_enum a (s1.heap.objs.size + 1) s1.heap.objs.size, ⟨⟨.none, he⟩, hit, Nat.succ_ne_self _⟩, fpk, q⟩
    · obtain ⟨its, rv, p', hz⟩ := I1.tuple hq
      refine call_enumB (begins_tuple a its.toArray) p' fun h' he hit hsz hk => wpAny_pyIter_enum he ?_
      have I2 : Inv X pins σ H1 { s1 with heap := h' } := I1.kept (t' := s1.toks) hk
      exact ⟨s1.heap.objs.size + 1, [s1.heap.objs.size + 1, s1.heap.objs.size], _, _, H1, rfl, I2, turn_enumT a (s1.heap.objs.size + 1) s1.heap.objs.size, ⟨⟨.none, he⟩, ⟨_, hit, rfl, rfl⟩, Nat.succ_ne_self _⟩, fpk, q⟩
section
variable {X : Cx} {m : M D} {p pos : Pos}
theorem jok_enumT {W : Addr → Prop} {al : Nat → Addr} {N : Nat} {H0 : Hp} {ds : List D} {gd : Sto → Prop} {a : Addr} (h : TpAt (cf X) W al N H0 ds a) : JOK (cf X) W al N H0 ((List.range ds.length).zipWith (fun i d => .pr [.int (i : Nat), d]) ds) gd (IteT X.K a) := by
  intro U ad sl S σ H s e g i
  obtain ⟨vs, q, r⟩ := h.later e
  refine ⟨fun d hd => ?_, fun hn => ⟨vs, q, ?_⟩⟩
  · rw [List.getElem?_zipWith] at hd
    split at hd
    · rename_i j d0 hj hd0
      cases hd
      have hj' : j = i := by
        rw [List.getElem?_range (by have := (List.getElem?_eq_some_iff.mp hj).1; simpa using this)] at hj
        exact (Option.some.inj hj).symm
      subst hj'
      obtain ⟨v, hv, rv⟩ := r.get hd0
      refine ⟨⟨vs, v, q, hv⟩, fun x H' y => ?_⟩
      obtain ⟨T, x0, rfl, hT, rfl, y⟩ := y
      have := y vs q
      rw [hv] at this; cases this
      exact tup2 s (.int _) rv hT
    · cases hd
  · rw [List.getElem?_eq_none_iff, List.length_zipWith, List.length_range] at hn
    rw [← r.length]; omega
/-- enumerate of a list or of a tuple -/
def iEnA (m : M D) : M Its := mBind m fun d => fun sl S => match d with
  | .tup ds => some (⟨(List.range ds.length).zipWith (fun i d => .pr [.int (i : Nat), d]) ds, none⟩, sl, S)
  | d => (lsOf S d).map fun p => (⟨(List.range p.1.length).zipWith (fun i d => .pr [.int (i : Nat), d]) p.1, p.2⟩, sl, S)
theorem ei_enA {el : Expr} {elts : List Expr} {kk : Nat} {tpos : Pos} (hg : Gl X "enumerate") (hm : X.mg "enumerate" = none) (ha : EE X el m) (hs : starEach [el] X.env = [(false, eval el X.env)] := by rfl) :
    EI X (.Tuple elts kk tpos) (.Call (.Name "enumerate" p) [el] [] pos) (iEnA m) := pi_imp (pi_enumA hg hm (pa_cons ha pa_nil hs) hs) fun σ H R q => by
  obtain ⟨U, ad, sl, S, its, sl', S', s, e, k⟩ := q
  obtain ⟨d, sl1, S1, e1, e2⟩ := mBind_some e
  refine ⟨U, ad, sl, S, d, sl1, S1, s, e1, fun ad1 H1 v s1 n1 r1 => ?_⟩
  split at e2
  · cases e2
    obtain ⟨a, ea, ta⟩ := tp_at r1
    obtain ⟨vs, q, _⟩ := ta.later Ext.refl
    exact ⟨a, vs, by rw [ea], .inr ⟨q, k ad1 H1 _ s1 n1 (jok_enumT ta)⟩⟩
  · cases hl : lsOf S1 d with
    | none => rw [hl] at e2; cases e2
    | some p =>
      rw [hl] at e2
      cases e2
      obtain ⟨a, ea, la⟩ := ls_at r1 (show lsOf _ d = some (p.1, p.2) from hl)
      obtain ⟨vs, q, _⟩ := la.later s1 Ext.refl la.gd
      exact ⟨a, vs, by rw [ea], .inl ⟨q, k ad1 H1 _ s1 n1 (jok_enum la)⟩⟩
end
end PS

namespace PS
open PySem

/-! ### pure reasoning: loops and lists -/
/-- a loop that runs through -/
theorem forGo_ind {gd : Option (Nat × Ob)} {g : MG} {b : MS} {ds0 : List D} (P : List D → Sl → Sto → Prop) (hgd : ∀ pre sl S, P pre sl S → gdOk gd S)
    (step : ∀ pre d post sl S, ds0 = pre ++ d :: post → P pre sl S → ∃ sl1 S1 sl2 S2, g d sl S = some (sl1, S1) ∧ (b sl1 S1 = some (.nx, sl2, S2) ∨ b sl1 S1 = some (.ct, sl2, S2)) ∧ P (pre ++ [d]) sl2 S2) :
    ∀ (ds pre : List D) (sl : Sl) (S : Sto), ds0 = pre ++ ds → P pre sl S → ∃ sl' S', forGo gd g b ds sl S = some (.nx, sl', S') ∧ P ds0 sl' S'
  | [], pre, sl, S, e, h => by
    rw [List.append_nil] at e
    subst e
    exact ⟨sl, S, by simp only [forGo]; rw [if_pos (hgd _ _ _ h)], h⟩
  | d :: ds, pre, sl, S, e, h => by
    obtain ⟨sl1, S1, sl2, S2, e1, e2, h2⟩ := step pre d ds sl S e h
    obtain ⟨sl', S', e3, h3⟩ := forGo_ind P hgd step ds (pre ++ [d]) sl2 S2 (by rw [List.append_assoc]; exact e) h2
    refine ⟨sl', S', ?_, h3⟩
    simp only [forGo]
    rw [if_pos (hgd _ _ _ h), e1]
    dsimp only
    rcases e2 with e2 | e2 <;> (rw [e2]; exact e3)
theorem for_ind {g : MG} {b : MS} {ds0 : List D} (P : List D → Sl → Sto → Prop)
    (step : ∀ pre d post sl S, ds0 = pre ++ d :: post → P pre sl S → ∃ sl1 S1 sl2 S2, g d sl S = some (sl1, S1) ∧ (b sl1 S1 = some (.nx, sl2, S2) ∨ b sl1 S1 = some (.ct, sl2, S2)) ∧ P (pre ++ [d]) sl2 S2)
    {sl : Sl} {S : Sto} (h : P [] sl S) : ∃ sl' S', forGo none g b ds0 sl S = some (.nx, sl', S') ∧ P ds0 sl' S' := forGo_ind (gd := none) P (fun _ _ _ _ => trivial) step ds0 [] sl S rfl h
/-- a comprehension: h d what d gives -/
theorem lcGo_map {g : MG} {t : M Bool} {e : M D} {vs : List Nat} {sl : Sl} {S : Sto} (h : D → Option D) :
    ∀ (ds acc : List D), acc.length + ds.length ≤ sizeLine → (∀ d, d ∈ ds → ∃ sl1 c sl2, g d sl S = some (sl1, S) ∧ t sl1 S = some (c, sl2, S) ∧
      (c = true → ∃ y sl3, e sl2 S = some (y, sl3, S) ∧ h d = some y ∧ wipeS sl3 vs = sl) ∧ (c = false → h d = none ∧ wipeS sl2 vs = sl)) →
    lcGo none g t e vs ds acc sl S = some (acc ++ ds.filterMap h, sl, S)
  | [], acc, _, _ => by simp [lcGo, gdOk]
  | d :: ds, acc, hl, hd => by
    obtain ⟨sl1, c, sl2, e1, e2, h1, h2⟩ := hd d (List.mem_cons_self ..)
    simp only [List.length_cons] at hl
    simp only [lcGo, gdOk, if_true, e1, e2]
    cases c with
    | true =>
      obtain ⟨y, sl3, e3, e4, e5⟩ := h1 rfl
      simp only [e3, e5]
      rw [if_pos (by omega), lcGo_map h ds (acc ++ [y]) (by rw [List.length_append]; simp; omega) fun d' hd' => hd d' (List.mem_cons_of_mem _ hd')]
      rw [List.filterMap_cons_some e4, List.append_assoc]
      rfl
    | false =>
      obtain ⟨e4, e5⟩ := h2 rfl
      simp only [e5]
      rw [lcGo_map h ds acc (by omega) fun d' hd' => hd d' (List.mem_cons_of_mem _ hd'), List.filterMap_cons_none e4]
/-- a def's value -/
theorem f_of {p n : Nat} {b : MS} {ds : List D} {S S' : Sto} {d : D} {sl' : Sl} (hl : ds.length = p) (h : b (ds.map (fun d => some (.val d)) ++ List.replicate (n - ds.length) none) S = some (.rt d, sl', S')) (hS : S'.length = S.length) : relF (runB p n b) ds S = some (d, S') := by
  unfold relF runB
  rw [if_pos hl, h]
  dsimp only
  unfold rel
  rw [if_pos hS]
theorem f_ofN {p n : Nat} {b : MS} {ds : List D} {S S' : Sto} {sl' : Sl} (hl : ds.length = p) (h : b (ds.map (fun d => some (.val d)) ++ List.replicate (n - ds.length) none) S = some (.nx, sl', S')) (hS : S'.length = S.length) : relF (runB p n b) ds S = some (.non, S') := by
  unfold relF runB
  rw [if_pos hl, h]
  dsimp only
  unfold rel
  rw [if_pos hS]
theorem seq_nx {a b : MS} {sl sl1 : Sl} {S S1 : Sto} (h : a sl S = some (.nx, sl1, S1)) : sSeq a b sl S = b sl1 S1 := by
  unfold sSeq
  rw [h]
theorem for_nx {m : M Its} {g : MG} {b : MS} {sl sl1 : Sl} {S S1 : Sto} {its : Its} (h : m sl S = some (its, sl1, S1)) : sFor m g b sl S = forGo its.gd g b its.ds sl1 S1 := by
  unfold sFor
  rw [h]

/-! ### plain data -/
abbrev tZ (l : List Int) : D := .tup (l.map .int)
theorem pls_ints : ∀ l : List Int, pls (l.map D.int) = true
  | [] => rfl
  | x :: l => by rw [List.map_cons, pls, pls_ints l]; rfl
theorem pys_ints : ∀ l : List Int, pys (l.map D.int) = l.map PyData.int
  | [] => rfl
  | x :: l => by rw [List.map_cons, pys, pys_ints l]; rfl
theorem pls_map {α : Type} {f : α → D} (h : ∀ a, pl (f a) = true) : ∀ l : List α, pls (l.map f) = true
  | [] => rfl
  | x :: l => by rw [List.map_cons, pls, h x, pls_map h l]; rfl
theorem pls_mem {ds : List D} (h : ∀ d ∈ ds, pl d = true) : pls ds = true := by
  induction ds with
  | nil => rfl
  | cons d ds ih => rw [pls, h d (List.mem_cons_self ..), ih fun x hx => h x (List.mem_cons_of_mem _ hx)]; rfl
theorem pys_map {α : Type} {f : α → D} : ∀ l : List α, pys (l.map f) = l.map fun a => py (f a)
  | [] => rfl
  | x :: l => by rw [List.map_cons, pys, pys_map l]; rfl
theorem pl_tZ (l : List Int) : pl (tZ l) = true := pls_ints l
theorem py_tZ (l : List Int) : py (tZ l) = .tuple (l.map .int) := by rw [tZ, py, pys_ints]
/-- == of plain trees is equality, where no truth value meets a number -/
theorem eqv_int (i j : Int) : PyData.eqv (.int i) (.int j) = decide (i = j) := by
  simp only [PyData.eqv]
  by_cases h : i = j
  · subst h; simp
  · simp [h]
theorem eqvAll_ints : ∀ l m : List Int, PyData.eqvAll (l.map .int) (m.map .int) = decide (l = m)
  | [], [] => by simp [PyData.eqvAll]
  | [], _ :: _ => by simp [PyData.eqvAll]
  | _ :: _, [] => by simp [PyData.eqvAll]
  | x :: l, y :: m => by
    simp only [List.map_cons, PyData.eqvAll, eqvAll_ints l m, eqv_int]
    by_cases h1 : x = y <;> by_cases h2 : l = m <;> simp [h1, h2]
theorem deq_tZ (l m : List Int) : deq (tZ l) (tZ m) = decide (l = m) := by
  unfold deq
  rw [py_tZ, py_tZ]
  simp only [PyData.eqv]
  exact eqvAll_ints l m
theorem deq_int (i j : Int) : deq (.int i) (.int j) = decide (i = j) := eqv_int i j
end PS

namespace PS
open PySem

/-! ### loops over the image of a list -/
theorem forGo_indA {α : Type} {inj : α → D} {g : MG} {b : MS} {l0 : List α} (P : List α → Sl → Sto → Prop)
    (step : ∀ pre a post sl S, l0 = pre ++ a :: post → P pre sl S → ∃ sl1 S1 sl2 S2, g (inj a) sl S = some (sl1, S1) ∧ (b sl1 S1 = some (.nx, sl2, S2) ∨ b sl1 S1 = some (.ct, sl2, S2)) ∧ P (pre ++ [a]) sl2 S2) :
    ∀ (l pre : List α) (sl : Sl) (S : Sto), l0 = pre ++ l → P pre sl S → ∃ sl' S', forGo none g b (l.map inj) sl S = some (.nx, sl', S') ∧ P l0 sl' S'
  | [], pre, sl, S, e, h => by
    rw [List.append_nil] at e
    subst e
    exact ⟨sl, S, by rw [List.map_nil]; simp only [forGo]; rw [if_pos (show gdOk none S from trivial)], h⟩
  | d :: ds, pre, sl, S, e, h => by
    obtain ⟨sl1, S1, sl2, S2, e1, e2, h2⟩ := step pre d ds sl S e h
    obtain ⟨sl', S', e3, h3⟩ := forGo_indA P step ds (pre ++ [d]) sl2 S2 (by rw [List.append_assoc]; exact e) h2
    refine ⟨sl', S', ?_, h3⟩
    rw [List.map_cons]
    simp only [forGo]
    rw [if_pos (show gdOk none S from trivial), e1]
    dsimp only
    rcases e2 with e2 | e2 <;> (rw [e2]; exact e3)
theorem for_indA {α : Type} {inj : α → D} {g : MG} {b : MS} {l0 : List α} (P : List α → Sl → Sto → Prop)
    (step : ∀ pre a post sl S, l0 = pre ++ a :: post → P pre sl S → ∃ sl1 S1 sl2 S2, g (inj a) sl S = some (sl1, S1) ∧ (b sl1 S1 = some (.nx, sl2, S2) ∨ b sl1 S1 = some (.ct, sl2, S2)) ∧ P (pre ++ [a]) sl2 S2)
    {sl : Sl} {S : Sto} (h : P [] sl S) : ∃ sl' S', forGo none g b (l0.map inj) sl S = some (.nx, sl', S') ∧ P l0 sl' S' := forGo_indA P step l0 [] sl S rfl h
/-- a loop that carries a value of β; the slots are st x β, where x is what the targets hold -/
theorem for_fold {α β ξ : Type} {inj : α → D} {g : MG} {b : MS} (st : ξ → β → Sl) (sS : β → Sto) (stp : β → α → β) (I : List α → β → Prop) {l0 : List α}
    (step : ∀ pre a post x c, l0 = pre ++ a :: post → I pre c → I (pre ++ [a]) (stp c a) ∧ ∃ sl1 S1 x', g (inj a) (st x c) (sS c) = some (sl1, S1) ∧ b sl1 S1 = some (.nx, st x' (stp c a), sS (stp c a)))
    {c : β} {x : ξ} (hI : I [] c) : ∃ x', forGo none g b (l0.map inj) (st x c) (sS c) = some (.nx, st x' (l0.foldl stp c), sS (l0.foldl stp c)) ∧ I l0 (l0.foldl stp c) := by
  obtain ⟨sl', S', e, x', e1, e2, e3⟩ := for_indA (inj := inj) (g := g) (b := b) (l0 := l0) (fun pre sl S => ∃ x', sl = st x' (pre.foldl stp c) ∧ S = sS (pre.foldl stp c) ∧ I pre (pre.foldl stp c))
    (fun pre a post sl S el hp => by
      obtain ⟨x1, rfl, rfl, hi⟩ := hp
      obtain ⟨hi', sl1, S1, x2, e1, e2⟩ := step pre a post x1 _ el hi
      refine ⟨sl1, S1, _, _, e1, .inl e2, x2, ?_, ?_, ?_⟩
      · rw [List.foldl_append]; rfl
      · rw [List.foldl_append]; rfl
      · rw [List.foldl_append]; exact hi')
    (sl := st x c) (S := sS c) ⟨x, rfl, rfl, hI⟩
  rw [e1, e2] at e
  exact ⟨x', e, e3⟩
theorem lcGo_mapA {α : Type} {inj : α → D} {g : MG} {t : M Bool} {e : M D} {vs : List Nat} {sl : Sl} {S : Sto} (h : α → Option D) :
    ∀ (l : List α) (acc : List D), acc.length + l.length ≤ sizeLine → (∀ a, a ∈ l → ∃ sl1 c sl2, g (inj a) sl S = some (sl1, S) ∧ t sl1 S = some (c, sl2, S) ∧
      (c = true → ∃ y sl3, e sl2 S = some (y, sl3, S) ∧ h a = some y ∧ wipeS sl3 vs = sl) ∧ (c = false → h a = none ∧ wipeS sl2 vs = sl)) →
    lcGo none g t e vs (l.map inj) acc sl S = some (acc ++ l.filterMap h, sl, S)
  | [], acc, _, _ => by simp [lcGo, gdOk]
  | d :: ds, acc, hl, hd => by
    obtain ⟨sl1, c, sl2, e1, e2, h1, h2⟩ := hd d (List.mem_cons_self ..)
    simp only [List.length_cons] at hl
    simp only [List.map_cons, lcGo, gdOk, if_true, e1, e2]
    cases c with
    | true =>
      obtain ⟨y, sl3, e3, e4, e5⟩ := h1 rfl
      simp only [e3, e5]
      rw [if_pos (by omega), lcGo_mapA h ds (acc ++ [y]) (by rw [List.length_append]; simp; omega) fun d' hd' => hd d' (List.mem_cons_of_mem _ hd')]
      rw [List.filterMap_cons_some e4, List.append_assoc]
      rfl
    | false =>
      obtain ⟨e4, e5⟩ := h2 rfl
      simp only [e5]
      rw [lcGo_mapA h ds acc (by omega) fun d' hd' => hd d' (List.mem_cons_of_mem _ hd'), List.filterMap_cons_none e4]
/-- without a test -/
theorem lcGo_all {α : Type} {inj : α → D} {g : MG} {e : M D} {vs : List Nat} {sl : Sl} {S : Sto} (h : α → D) (l : List α)
    (hl : l.length ≤ sizeLine) (hd : ∀ a, a ∈ l → ∃ sl1 sl3, g (inj a) sl S = some (sl1, S) ∧ e sl1 S = some (h a, sl3, S) ∧ wipeS sl3 vs = sl) :
    lcGo none g tYs e vs (l.map inj) [] sl S = some (l.map h, sl, S) := by
  rw [lcGo_mapA (fun a => some (h a)) l [] (by simpa using hl) fun a ha => by
    obtain ⟨sl1, sl3, e1, e2, e3⟩ := hd a ha
    exact ⟨sl1, true, sl1, e1, rfl, fun _ => ⟨_, _, e2, rfl, e3⟩, fun h => by cases h⟩]
  rw [List.nil_append, List.filterMap_eq_map']
theorem enum_map {α : Type} (f : α → D) : ∀ (l : List α) (k : Nat), (List.range' k l.length).zipWith (fun i d => D.pr [.int (i : Nat), d]) (l.map f) = (l.zipIdx k).map fun p => .pr [.int (p.2 : Nat), f p.1]
  | [], _ => rfl
  | x :: l, k => by
    rw [List.length_cons, List.range'_succ, List.map_cons, List.zipWith_cons_cons, enum_map f l (k + 1)]
    rfl
theorem enum_map0 {α : Type} (f : α → D) (l : List α) : (List.range (l.map f).length).zipWith (fun i d => D.pr [.int (i : Nat), d]) (l.map f) = l.zipIdx.map fun p => .pr [.int (p.2 : Nat), f p.1] := by
  rw [List.length_map, List.range_eq_range']
  exact enum_map f l 0
theorem countP_ints (l : List Int) (r : Int) : ((l.map PyData.int).countP fun y => PyData.eqv y (.int r)) = l.count r := by
  induction l with
  | nil => rfl
  | cons x l ih =>
    rw [List.map_cons, List.countP_cons, ih, List.count_cons, eqv_int]
    by_cases h : x = r <;> simp [h]
end PS
namespace PS
open PySem
theorem forGo_nil0 {g : MG} {b : MS} {sl : Sl} {S : Sto} : forGo none g b [] sl S = some (.nx, sl, S) := by
  simp only [forGo]; rw [if_pos (show gdOk none S from trivial)]
theorem forGo_cons0 {g : MG} {b : MS} {d : D} {ds : List D} {sl : Sl} {S : Sto} : forGo none g b (d :: ds) sl S = (match g d sl S with
    | some (sl1, S1) => match b sl1 S1 with
      | some (.nx, sl2, S2) => forGo none g b ds sl2 S2
      | some (.ct, sl2, S2) => forGo none g b ds sl2 S2
      | some (.bk, sl2, S2) => some (.nx, sl2, S2)
      | some (.rt d, sl2, S2) => some (.rt d, sl2, S2)
      | none => none
    | none => none) := by
  conv => lhs; simp only [forGo]
  refine (if_pos (show gdOk none S from trivial)).trans ?_
  rcases g d sl S with _ | ⟨sl1, S1⟩
  · rfl
  · rcases b sl1 S1 with _ | ⟨f, sl2, S2⟩
    · rfl
    · cases f <;> rfl
theorem szN (k : Nat) (h : k ≤ 64 := by decide) : (k ≤ sizeLine) = True := by
  simp only [eq_iff_iff, iff_true]; exact Nat.le_trans h (by decide)
theorem sz0 : (0 ≤ sizeLine) = True := szN 0
theorem sz1 : (1 ≤ sizeLine) = True := szN 1
theorem sz2 : (2 ≤ sizeLine) = True := szN 2
theorem sz3 : (3 ≤ sizeLine) = True := szN 3
theorem sz4 : (4 ≤ sizeLine) = True := szN 4
theorem sz5 : (5 ≤ sizeLine) = True := szN 5
theorem pl_tZ' (l : List Int) : pl (.tup (l.map .int)) = true := pl_tZ l
theorem py_tZ' (l : List Int) : py (.tup (l.map .int)) = .tuple (l.map .int) := py_tZ l
theorem pls_ints' (l : List Int) : pls (l.map D.int) = true := pls_ints l
theorem depth_ints : ∀ l : List Int, PyData.depthAll (l.map PyData.int) ≤ 1
  | [] => by simp [PyData.depthAll]
  | x :: l => by simp [PyData.depthAll, PyData.depth, depth_ints l]
end PS
namespace PS
open PySem
/-- a comprehension over the image of a list; tg a: the slots with the targets put in -/
theorem lcGo_f {α : Type} {inj : α → D} {g : MG} {t : M Bool} {e : M D} {vs : List Nat} {sl : Sl} {S : Sto} (tg : α → Sl) (c : α → Bool) (h : α → D) (l : List α) (hl : l.length ≤ sizeLine)
    (h1 : ∀ a, a ∈ l → g (inj a) sl S = some (tg a, S)) (h2 : ∀ a, a ∈ l → t (tg a) S = some (c a, tg a, S)) (h3 : ∀ a, a ∈ l → c a = true → e (tg a) S = some (h a, tg a, S)) (h4 : ∀ a, a ∈ l → wipeS (tg a) vs = sl) :
    lcGo none g t e vs (l.map inj) [] sl S = some ((l.filter c).map h, sl, S) := by
  rw [lcGo_mapA (fun a => if c a = true then some (h a) else none) l [] (by simpa using hl) fun a ha => ⟨tg a, c a, tg a, h1 a ha, h2 a ha, fun hc => ⟨_, _, h3 a ha hc, by rw [if_pos hc], h4 a ha⟩, fun hc => ⟨by rw [if_neg (by simp [hc])], h4 a ha⟩⟩, List.nil_append]
  congr 2
  clear h1 h2 h3 h4 hl
  induction l with
  | nil => rfl
  | cons a l ih =>
    by_cases hc : c a = true
    · rw [List.filterMap_cons_some (by rw [if_pos hc]), List.filter_cons_of_pos hc, List.map_cons, ih]
    · rw [List.filterMap_cons_none (by rw [if_neg hc]), List.filter_cons_of_neg hc, ih]
theorem lcGo_a {α : Type} {inj : α → D} {g : MG} {e : M D} {vs : List Nat} {sl : Sl} {S : Sto} (tg : α → Sl) (h : α → D) (l : List α) (hl : l.length ≤ sizeLine)
    (h1 : ∀ a, a ∈ l → g (inj a) sl S = some (tg a, S)) (h3 : ∀ a, a ∈ l → e (tg a) S = some (h a, tg a, S)) (h4 : ∀ a, a ∈ l → wipeS (tg a) vs = sl) :
    lcGo none g tYs e vs (l.map inj) [] sl S = some (l.map h, sl, S) := by
  rw [lcGo_f tg (fun _ => true) h l hl h1 (fun a _ => rfl) (fun a ha _ => h3 a ha) h4, List.filter_eq_self.mpr (fun _ _ => rfl)]
end PS
namespace PS
open PySem
theorem nLc_f' {α : Type} {inj : α → D} {m : M Its} {g : MG} {t : M Bool} {e : M D} {vs : List Nat} {sl sl1 sl2 sl3 : Sl} {S : Sto} (tg : α → Sl) (c : α → Bool) (h : α → D) (l : List α) {items : List D} (hm : m sl S = some (⟨items, none⟩, sl1, S)) (hi : items = l.map inj) (hw : wipeS sl1 vs = sl2) (hr : restS sl1 sl2 vs = sl3) (hl : l.length ≤ sizeLine)
    (h1 : ∀ a, a ∈ l → g (inj a) sl2 S = some (tg a, S)) (h2 : ∀ a, a ∈ l → t (tg a) S = some (c a, tg a, S)) (h3 : ∀ a, a ∈ l → c a = true → e (tg a) S = some (h a, tg a, S)) (h4 : ∀ a, a ∈ l → wipeS (tg a) vs = sl2) :
    nLc m g t e vs sl S = some (.lst ((l.filter c).map h), sl3, S) := by
  unfold nLc
  rw [hm, hi]
  dsimp only
  rw [hw, lcGo_f tg c h l hl h1 h2 h3 h4]
  dsimp only
  rw [hr]
theorem nLc_a' {α : Type} {inj : α → D} {m : M Its} {g : MG} {e : M D} {vs : List Nat} {sl sl1 sl2 sl3 : Sl} {S : Sto} (tg : α → Sl) (h : α → D) (l : List α) {items : List D} (hm : m sl S = some (⟨items, none⟩, sl1, S)) (hi : items = l.map inj) (hw : wipeS sl1 vs = sl2) (hr : restS sl1 sl2 vs = sl3) (hl : l.length ≤ sizeLine)
    (h1 : ∀ a, a ∈ l → g (inj a) sl2 S = some (tg a, S)) (h3 : ∀ a, a ∈ l → e (tg a) S = some (h a, tg a, S)) (h4 : ∀ a, a ∈ l → wipeS (tg a) vs = sl2) :
    nLc m g tYs e vs sl S = some (.lst (l.map h), sl3, S) := by
  rw [nLc_f' tg (fun _ => true) h l hm hi hw hr hl h1 (fun a _ => rfl) (fun a ha _ => h3 a ha) h4, List.filter_eq_self.mpr (fun _ _ => rfl)]
theorem nLc_f {α : Type} {inj : α → D} {m : M Its} {g : MG} {t : M Bool} {e : M D} {vs : List Nat} {sl sl2 sl3 : Sl} {S : Sto} (tg : α → Sl) (c : α → Bool) (h : α → D) (l : List α) {items : List D} (hm : m sl S = some (⟨items, none⟩, sl, S)) (hi : items = l.map inj) (hw : wipeS sl vs = sl2) (hr : restS sl sl2 vs = sl3) (hl : l.length ≤ sizeLine)
    (h1 : ∀ a, a ∈ l → g (inj a) sl2 S = some (tg a, S)) (h2 : ∀ a, a ∈ l → t (tg a) S = some (c a, tg a, S)) (h3 : ∀ a, a ∈ l → c a = true → e (tg a) S = some (h a, tg a, S)) (h4 : ∀ a, a ∈ l → wipeS (tg a) vs = sl2) :
    nLc m g t e vs sl S = some (.lst ((l.filter c).map h), sl3, S) := nLc_f' tg c h l hm hi hw hr hl h1 h2 h3 h4
theorem nLc_a {α : Type} {inj : α → D} {m : M Its} {g : MG} {e : M D} {vs : List Nat} {sl sl2 sl3 : Sl} {S : Sto} (tg : α → Sl) (h : α → D) (l : List α) {items : List D} (hm : m sl S = some (⟨items, none⟩, sl, S)) (hi : items = l.map inj) (hw : wipeS sl vs = sl2) (hr : restS sl sl2 vs = sl3) (hl : l.length ≤ sizeLine)
    (h1 : ∀ a, a ∈ l → g (inj a) sl2 S = some (tg a, S)) (h3 : ∀ a, a ∈ l → e (tg a) S = some (h a, tg a, S)) (h4 : ∀ a, a ∈ l → wipeS (tg a) vs = sl2) :
    nLc m g tYs e vs sl S = some (.lst (l.map h), sl3, S) := nLc_a' tg h l hm hi hw hr hl h1 h3 h4
end PS
namespace PS
open PySem
def dropS : Option (Fl × Sl × Sto) → Option (D × Sto)
  | some (.rt d, _, S') => some (d, S')
  | some (.nx, _, S') => some (.non, S')
  | _ => none
theorem f_by {p n : Nat} {b : MS} {ds : List D} {S S' : Sto} {d : D} (sl : Sl) (hl : ds.length = p) (hs : ds.map (fun d => some (.val d)) ++ List.replicate (n - ds.length) none = sl) (h : dropS (b sl S) = some (d, S')) (hS : S'.length = S.length) : relF (runB p n b) ds S = some (d, S') := by
  subst hs
  unfold relF runB
  rw [if_pos hl]
  generalize b (ds.map (fun d => some (.val d)) ++ List.replicate (n - ds.length) none) S = r at h
  unfold dropS at h
  split at h
  · cases h
    dsimp only
    unfold rel
    rw [if_pos hS]
  · cases h
    dsimp only
    unfold rel
    rw [if_pos hS]
  · cases h
end PS
namespace PS
open PySem
theorem atI_map {α : Type} (f : α → D) (l : List α) (a : Nat) (h : a < l.length) : L2.atI (l.map f) (a : Int) = some (f l[a]) := by
  unfold L2.atI L2.ixN
  rw [if_pos (Int.natCast_nonneg a), if_pos (by rw [List.length_map]; omega)]
  simp [h]
theorem pls_tZs (l : List (List Int)) : pls (l.map fun m => tZ m) = true := pls_map (fun a => pl_tZ a) l
theorem dep_tup (l : List Int) (k : Nat) (h : 2 ≤ k := by decide) : (PyData.depth (.tuple (l.map .int)) ≤ k) = True := by
  have := depth_ints l
  simp only [PyData.depth, eq_iff_iff, iff_true]
  omega
theorem dep60 (l : List Int) : (PyData.depth (.tuple (l.map .int)) ≤ 60) = True := dep_tup l 60
theorem dep59 (l : List Int) : (PyData.depthAll (l.map .int) ≤ 59) = True := by
  have := depth_ints l
  simp only [eq_iff_iff, iff_true]; omega
theorem any_tZ (l : List (List Int)) (m : List Int) : ((l.map fun m => tZ m).any fun z => deq z (tZ m)) = decide (m ∈ l) := by
  induction l with
  | nil => rfl
  | cons x l ih =>
    rw [List.map_cons, List.any_cons, ih, deq_tZ]
    by_cases h : x = m
    · subst h; simp
    · have : ¬ m = x := fun e => h e.symm
      simp [h, this]
end PS
namespace PS
open PySem
/-- one turn of a loop -/
def turn (g : MG) (b : MS) (d : D) (sl : Sl) (S : Sto) : Option (Fl × Sl × Sto) := match g d sl S with
  | some (sl1, S1) => b sl1 S1
  | none => none
theorem turn_some {g : MG} {b : MS} {d : D} {sl : Sl} {S : Sto} {r : Fl × Sl × Sto} (h : turn g b d sl S = some r) : ∃ sl1 S1, g d sl S = some (sl1, S1) ∧ b sl1 S1 = some r := by
  unfold turn at h
  split at h
  · exact ⟨_, _, by assumption, h⟩
  · cases h
theorem sFor_fold {α β ξ : Type} {inj : α → D} {m : M Its} {g : MG} {b : MS} {sl : Sl} {S : Sto} (st : ξ → β → Sl) (sS : β → Sto) (stp : β → α → β) (I : List α → β → Prop) {l0 : List α} {items : List D} {c : β} {x : ξ}
    (hm : m sl S = some (⟨items, none⟩, st x c, sS c)) (hi : items = l0.map inj)
    (step : ∀ pre a post x c, l0 = pre ++ a :: post → I pre c → I (pre ++ [a]) (stp c a) ∧ ∃ x', turn g b (inj a) (st x c) (sS c) = some (.nx, st x' (stp c a), sS (stp c a)))
    (hI : I [] c) : ∃ x', sFor m g b sl S = some (.nx, st x' (l0.foldl stp c), sS (l0.foldl stp c)) ∧ I l0 (l0.foldl stp c) := by
  rw [for_nx hm, hi]
  exact for_fold st sS stp I (fun pre a post x c e hi => by
    obtain ⟨h1, x', h2⟩ := step pre a post x c e hi
    obtain ⟨sl1, S1, e1, e2⟩ := turn_some h2
    exact ⟨h1, sl1, S1, x', e1, e2⟩) hI
theorem sFor_then {α β ξ : Type} {inj : α → D} {m : M Its} {g : MG} {b k : MS} {sl : Sl} {S : Sto} {R : Option (D × Sto)} (st : ξ → β → Sl) (sS : β → Sto) (stp : β → α → β) (I : List α → β → Prop) {l0 : List α} {items : List D} {c : β} {x : ξ}
    (hm : m sl S = some (⟨items, none⟩, st x c, sS c)) (hi : items = l0.map inj)
    (step : ∀ pre a post x c, l0 = pre ++ a :: post → I pre c → I (pre ++ [a]) (stp c a) ∧ ∃ x', turn g b (inj a) (st x c) (sS c) = some (.nx, st x' (stp c a), sS (stp c a)))
    (hI : I [] c) (hk : ∀ x', I l0 (l0.foldl stp c) → dropS (k (st x' (l0.foldl stp c)) (sS (l0.foldl stp c))) = R) : dropS (sSeq (sFor m g b) k sl S) = R := by
  obtain ⟨x', e, h⟩ := sFor_fold st sS stp I hm hi step hI
  rw [seq_nx e]
  exact hk x' h
theorem seq_then {a k : MS} {sl sl1 : Sl} {S S1 : Sto} {R : Option (D × Sto)} (h : a sl S = some (.nx, sl1, S1)) (hk : dropS (k sl1 S1) = R) : dropS (sSeq a k sl S) = R := by
  rw [seq_nx h]; exact hk
theorem rng0 (n : Nat) : rng 0 n = (List.range n).map fun i => .int ((i : Nat) : Int) := by
  unfold rng
  simp
theorem bd_nat {n : Nat} (h : n < 2 ^ 62) : bd (n : Int) = true := by
  unfold bd
  rw [Bool.and_eq_true]
  exact ⟨decide_eq_true (by omega), decide_eq_true (by omega)⟩
end PS
namespace PS
open PySem
theorem deq_nil {α : Type} (f : α → D) (L : List α) : deq (.tup (L.map f)) (.tup []) = L.isEmpty := by
  cases L <;> simp [deq, py, pys, PyData.eqv, PyData.eqvAll]
theorem dmin1 (x : Nat) : (min x 1 ≤ 64) = True := by simp only [eq_iff_iff, iff_true]; omega
theorem foldl_app {α β : Type} (f : α → List β) : ∀ (l : List α) (acc : List β), l.foldl (fun acc x => acc ++ f x) acc = acc ++ l.flatMap f
  | [], acc => by simp
  | x :: l, acc => by rw [List.foldl_cons, foldl_app f l, List.flatMap_cons, List.append_assoc]
end PS
namespace PS
open PySem
theorem dmin0 (x : Nat) : (min x (PyData.depthAll [] + 1) ≤ 64) = True := by
  have : PyData.depthAll [] = 0 := by simp [PyData.depthAll]
  rw [this]; exact dmin1 x
end PS
namespace PS
open PySem
theorem lt_sz {k : Nat} (h : k < 64) : k < sizeLine := Nat.lt_of_lt_of_le h (by decide)
theorem le_sz {k : Nat} (h : k ≤ 64) : k ≤ sizeLine := Nat.le_trans h (by decide)
end PS
namespace PS
open PySem
theorem bd64 {n : Nat} (h : n ≤ 64) : bd (n : Int) = true := bd_nat (Nat.lt_of_le_of_lt h (by decide))
end PS
namespace PS
open PySem
theorem turn_of {g : MG} {b : MS} {d : D} {sl sl1 : Sl} {S S1 : Sto} {r : Option (Fl × Sl × Sto)} (h : g d sl S = some (sl1, S1)) (h2 : b sl1 S1 = r) : turn g b d sl S = r := by
  unfold turn
  rw [h]
  exact h2
end PS
namespace PS
open PySem
theorem if_bd {α : Type} {j : Int} (h : bd j = true) (x y : α) : (if bd j = true then x else y) = x := if_pos h
theorem iR1_of {m : M (List D)} {sl sl1 : Sl} {S S1 : Sto} {j : Int} (hb : bd j = true) (h : m sl S = some ([.int j], sl1, S1)) : iR1 m sl S = some (⟨rng 0 j.toNat, none⟩, sl1, S1) := by
  unfold iR1 mBind
  rw [h]
  exact if_bd hb _ _
theorem iR1_nat {m : M (List D)} {sl sl1 : Sl} {S S1 : Sto} {n : Nat} (hn : n ≤ 64) (h : m sl S = some ([.int (n : Int)], sl1, S1)) : iR1 m sl S = some (⟨(List.range n).map fun i => .int ((i : Nat) : Int), none⟩, sl1, S1) := by
  rw [iR1_of (bd64 hn) h, Int.toNat_natCast, rng0]
end PS

namespace PS
open PySem
theorem deq_cons_nil (x : D) (xs : List D) : deq (.tup (x :: xs)) (.tup []) = false := by
  simp [deq, py, pys, PyData.eqv, PyData.eqvAll]
theorem deq_str (x y : Str) : deq (.str x) (.str y) = (x == y) := by
  simp only [deq, py, PyData.eqv]
end PS

/-! Weakest preconditions of the layer's programs. -/
namespace PS
open PySem

def WM {α : Type} (m : M α) (sl : Sl) (S : Sto) (Q : α → Sl → Sto → Prop) : Prop := ∃ a sl' S', m sl S = some (a, sl', S') ∧ Q a sl' S'
def WO {α : Type} (o : Option α) (Q : α → Prop) : Prop := ∃ a, o = some a ∧ Q a
def WG (g : MG) (d : D) (sl : Sl) (S : Sto) (Q : Sl → Sto → Prop) : Prop := ∃ sl' S', g d sl S = some (sl', S') ∧ Q sl' S'
def WGs (g : List D → Sl → Sto → Option (Sl × Sto)) (d : List D) (sl : Sl) (S : Sto) (Q : Sl → Sto → Prop) : Prop := ∃ sl' S', g d sl S = some (sl', S') ∧ Q sl' S'
def WQ : Fl → Prop → Prop → Prop
  | .nx, A, _ => A
  | _, _, B => B
def WI : Bool → Prop → Prop → Prop
  | true, A, _ => A
  | false, _, B => B
def WB : D → (Bool → Prop) → Prop
  | .bl b, Q => Q b
  | _, _ => False
def WL : D → (List D → Prop) → Prop
  | .lst ds, Q => Q ds
  | .tup ds, Q => Q ds
  | _, _ => False
def WN : D → (Int → Prop) → Prop
  | .int i, Q => Q i
  | _, _ => False
def WX : D → Str → (List (Str × D) → Prop) → Prop
  | .ins c' fs, c, Q => c' = c ∧ Q fs
  | _, _, _ => False
def WXo : Ob → Str → (List (Str × D) → Prop) → Prop
  | .ins c' fs, c, Q => c' = c ∧ Q fs
  | _, _, _ => False
def WSl : Option (Option SV) → Nat → Sl → Sto → (D → Sl → Sto → Prop) → Prop
  | some (some (.val d)), _, sl, S, Q => Q d sl S
  | some (some (.own ob)), i, sl, S, Q => Q ob.fz (sl.set i (some (.val ob.fz))) S
  | _, _, _, _, _ => False
def WPk : Option (Option SV) → Prop → Prop
  | some (some _), A => A
  | _, _ => False
/-- what a loop's turn ends with -/
def WLp : Fl → Prop → Prop → (D → Prop) → Prop
  | .nx, A, _, _ => A
  | .ct, A, _, _ => A
  | .bk, _, B, _ => B
  | .rt d, _, _, C => C d
/-- what a def ends with -/
def WR : Fl → (D → Prop) → Prop
  | .nx, Q => Q .non
  | .rt d, Q => Q d
  | _, _ => False
def WFo (its : Its) (g : MG) (b : MS) (sl : Sl) (S : Sto) (Q : Fl → Sl → Sto → Prop) : Prop := ∃ fl sl' S', forGo its.gd g b its.ds sl S = some (fl, sl', S') ∧ Q fl sl' S'
def WLc (its : Its) (g : MG) (t : M Bool) (e : M D) (vs : List Nat) (sl : Sl) (S : Sto) (Q : Ob → Sl → Sto → Prop) : Prop := ∃ acc sl' S', lcGo its.gd g t e vs its.ds [] (wipeS sl vs) S = some (acc, sl', S') ∧ Q (.lst acc) (restS sl sl' vs) S'

section
variable {α β : Type} {sl : Sl} {S : Sto} {x : Option SV}
theorem WM.mono {m : M α} {Q Q' : α → Sl → Sto → Prop} (h : WM m sl S Q) (k : ∀ a sl' S', Q a sl' S' → Q' a sl' S') : WM m sl S Q' := let ⟨a, s, T, e, q⟩ := h; ⟨a, s, T, e, k _ _ _ q⟩
theorem WO.mono {o : Option α} {Q Q' : α → Prop} (h : WO o Q) (k : ∀ a, Q a → Q' a) : WO o Q' := let ⟨a, e, q⟩ := h; ⟨a, e, k _ q⟩
theorem WM_iff {m : M α} {a : α} {sl' : Sl} {S' : Sto} {Q : α → Sl → Sto → Prop} (h : m sl S = some (a, sl', S')) : WM m sl S Q ↔ Q a sl' S' :=
  ⟨fun ⟨a', s, T, e, q⟩ => (by rw [h] at e; cases e; exact q), fun q => ⟨_, _, _, h, q⟩⟩
theorem w_some {a : α} {Q : α → Prop} : WO (some a) Q ↔ Q a := ⟨fun ⟨_, e, q⟩ => (by cases e; exact q), fun q => ⟨_, rfl, q⟩⟩
theorem w_none {Q : α → Prop} : WO none Q ↔ False := ⟨fun ⟨_, e, _⟩ => (by cases e), fun q => q.elim⟩
theorem w_ite {c : Prop} [Decidable c] {o : Option α} {Q : α → Prop} : WO (if c then o else none) Q ↔ c ∧ WO o Q := by
  by_cases h : c
  · rw [if_pos h]; exact ⟨fun q => ⟨h, q⟩, fun q => q.2⟩
  · rw [if_neg h]; exact ⟨fun q => (w_none.mp q).elim, fun q => absurd q.1 h⟩
theorem w_map {f : α → β} {o : Option α} {Q : β → Prop} : WO (o.map f) Q ↔ WO o fun a => Q (f a) := by
  cases o with
  | none => exact ⟨fun q => (w_none.mp q).elim, fun q => (w_none.mp q).elim⟩
  | some a => exact (w_some (a := f a) (Q := Q)).trans (w_some (a := a) (Q := fun a => Q (f a))).symm
theorem w_bnd {f : α → Option β} {o : Option α} {Q : β → Prop} : WO (o.bind f) Q ↔ WO o fun a => WO (f a) Q := by
  cases o with
  | none => exact ⟨fun q => (w_none.mp q).elim, fun q => (w_none.mp q).elim⟩
  | some a => exact (w_some (a := a) (Q := fun a => WO (f a) Q)).symm
theorem WM_bind {m : M α} {f : α → M β} {Q : β → Sl → Sto → Prop} : WM (mBind m f) sl S Q ↔ WM m sl S fun a sl' S' => WM (f a) sl' S' Q := by
  constructor
  · rintro ⟨b, s2, S2, e, q⟩
    obtain ⟨a, s1, S1, e1, e2⟩ := mBind_some e
    exact ⟨a, s1, S1, e1, b, s2, S2, e2, q⟩
  · rintro ⟨a, s1, S1, e1, b, s2, S2, e2, q⟩
    refine ⟨b, s2, S2, ?_, q⟩
    unfold mBind
    rw [e1]
    exact e2
theorem WM_opt {o : Option α} {f : α → β} {Q : β → Sl → Sto → Prop} : WM (fun sl S => o.map fun d => (f d, sl, S)) sl S Q ↔ WO o fun d => Q (f d) sl S := by
  cases o with
  | none => exact ⟨fun ⟨_, _, _, e, _⟩ => (by cases e), fun q => (w_none.mp q).elim⟩
  | some a => exact (WM_iff (a := f a) rfl).trans (w_some (a := a) (Q := fun d => Q (f d) sl S)).symm
variable {m : M D} {ms : M (List D)} {mo : M Ob} {mr : M Rf} {mt : M Bool} {Q : D → Sl → Sto → Prop} {QL : List D → Sl → Sto → Prop} {QO : Ob → Sl → Sto → Prop} {QR : Rf → Sl → Sto → Prop} {QB : Bool → Sl → Sto → Prop} {QF : Fl → Sl → Sto → Prop}
theorem wq_nx {A B : Prop} : WQ .nx A B ↔ A := .rfl
theorem wq_bk {A B : Prop} : WQ .bk A B ↔ B := .rfl
theorem wq_ct {A B : Prop} : WQ .ct A B ↔ B := .rfl
theorem wq_rt {A B : Prop} {d : D} : WQ (.rt d) A B ↔ B := .rfl
theorem wi_t {A B : Prop} : WI true A B ↔ A := .rfl
theorem wi_f {A B : Prop} : WI false A B ↔ B := .rfl
theorem wi_s {c : Bool} {A : Prop} : WI c A A ↔ A := by cases c <;> exact .rfl
theorem wi_not {c : Bool} {A B : Prop} : WI (!c) A B ↔ WI c B A := by cases c <;> exact .rfl
theorem WI_i {c : Bool} {A B : Prop} (h1 : c = true → A) (h2 : c = false → B) : WI c A B := by
  cases c
  · exact h2 rfl
  · exact h1 rfl
theorem WI_d {p : Prop} [Decidable p] {A B : Prop} (h1 : p → A) (h2 : ¬ p → B) : WI (decide p) A B := by
  by_cases h : p
  · rw [decide_eq_true h]; exact h1 h
  · rw [decide_eq_false h]; exact h2 h
theorem wb_bl {b : Bool} {Q : Bool → Prop} : WB (.bl b) Q ↔ Q b := .rfl
theorem wl_lst {ds : List D} {Q : List D → Prop} : WL (.lst ds) Q ↔ Q ds := .rfl
theorem wl_tup {ds : List D} {Q : List D → Prop} : WL (.tup ds) Q ↔ Q ds := .rfl
theorem wn_int {i : Int} {Q : Int → Prop} : WN (.int i) Q ↔ Q i := .rfl
theorem wx_ins {c' c : Str} {fs : List (Str × D)} {Q : List (Str × D) → Prop} : WX (.ins c' fs) c Q ↔ c' = c ∧ Q fs := .rfl
theorem wxo_ins {c' c : Str} {fs : List (Str × D)} {Q : List (Str × D) → Prop} : WXo (.ins c' fs) c Q ↔ c' = c ∧ Q fs := .rfl
theorem wsl_v {d : D} {i : Nat} {Q : D → Sl → Sto → Prop} : WSl (some (some (.val d))) i sl S Q ↔ Q d sl S := .rfl
theorem wsl_o {ob : Ob} {i : Nat} {Q : D → Sl → Sto → Prop} : WSl (some (some (.own ob))) i sl S Q ↔ Q ob.fz (sl.set i (some (.val ob.fz))) S := .rfl
theorem wpk_s {y : SV} {A : Prop} : WPk (some (some y)) A ↔ A := .rfl
theorem wlp_nx {A B : Prop} {C : D → Prop} : WLp .nx A B C ↔ A := .rfl
theorem wlp_ct {A B : Prop} {C : D → Prop} : WLp .ct A B C ↔ A := .rfl
theorem wlp_bk {A B : Prop} {C : D → Prop} : WLp .bk A B C ↔ B := .rfl
theorem wlp_rt {A B : Prop} {C : D → Prop} {d : D} : WLp (.rt d) A B C ↔ C d := .rfl
theorem wr_nx {P : D → Prop} : WR .nx P ↔ P .non := .rfl
theorem wr_rt {P : D → Prop} {d : D} : WR (.rt d) P ↔ P d := .rfl

/-! values -/
theorem w_pure {a : α} {Q : α → Sl → Sto → Prop} : WM (mPure a) (x :: sl) S Q ↔ Q a (x :: sl) S := WM_iff rfl
theorem w_cs {d : D} : WM (cs d) (x :: sl) S Q ↔ Q d (x :: sl) S := WM_iff rfl
theorem w_vr {i : Nat} : WM (vr i) (x :: sl) S Q ↔ WSl ((x :: sl)[i]?) i (x :: sl) S Q := by
  rcases h : (x :: sl)[i]? with _ | _ | _ | _
  · exact ⟨fun ⟨_, _, _, e, _⟩ => (by simp only [vr, h] at e; cases e), fun q => q.elim⟩
  · exact ⟨fun ⟨_, _, _, e, _⟩ => (by simp only [vr, h] at e; cases e), fun q => q.elim⟩
  · exact WM_iff (by simp only [vr, h])
  · exact WM_iff (by simp only [vr, h])
theorem w_pk {i : Nat} : WM (pk i) (x :: sl) S QR ↔ WPk ((x :: sl)[i]?) (QR (.sl i) (x :: sl) S) := by
  rcases h : (x :: sl)[i]? with _ | _ | _
  · exact ⟨fun ⟨_, _, _, e, _⟩ => (by simp only [pk, h] at e; cases e), fun q => q.elim⟩
  · exact ⟨fun ⟨_, _, _, e, _⟩ => (by simp only [pk, h] at e; cases e), fun q => q.elim⟩
  · exact WM_iff (by simp only [pk, h])
theorem w_oD : WM (oD m) (x :: sl) S QR ↔ WM m (x :: sl) S fun d sl' S' => QR (.d d) sl' S' := by
  unfold oD; rw [WM_bind]
  exact ⟨fun h => h.mono fun _ _ _ q => (WM_iff rfl).mp q, fun h => h.mono fun _ _ _ q => (WM_iff rfl).mpr q⟩
theorem w_m2 {f : F2} {ma mb : M Rf} : WM (m2 f ma mb) (x :: sl) S Q ↔ WM ma (x :: sl) S fun a sl1 S1 => WM mb sl1 S1 fun b sl2 S2 => WO (f sl2 S2 a b) fun d => Q d sl2 S2 := by
  unfold m2; rw [WM_bind]
  exact ⟨fun h => h.mono fun _ _ _ q => (WM_bind.mp q).mono fun _ _ _ q => WM_opt.mp q, fun h => h.mono fun _ _ _ q => WM_bind.mpr (q.mono fun _ _ _ q => WM_opt.mpr q)⟩
theorem w_m1 {f : F1} {ma : M Rf} : WM (m1 f ma) (x :: sl) S Q ↔ WM ma (x :: sl) S fun a sl1 S1 => WO (f sl1 S1 a) fun d => Q d sl1 S1 := by
  unfold m1; rw [WM_bind]
  exact ⟨fun h => h.mono fun _ _ _ q => WM_opt.mp q, fun h => h.mono fun _ _ _ q => WM_opt.mpr q⟩
theorem WM_iff2 {m : M α} {A : Prop} {Q : α → Sl → Sto → Prop} (h : ∀ a sl' S', m sl S = some (a, sl', S') → (Q a sl' S' ↔ A)) (h0 : m sl S = none → ¬ A) : WM m sl S Q ↔ A := by
  rcases e : m sl S with _ | ⟨a, s1, S1⟩
  · exact ⟨fun ⟨_, _, _, e', _⟩ => (by rw [e] at e'; cases e'), fun q => absurd q (h0 e)⟩
  · exact (WM_iff e).trans (h _ _ _ e)
theorem WB_of {d : D} {Q : Bool → Sl → Sto → Prop} : WM (fun sl S => match d with | .bl b => some (b, sl, S) | _ => none) sl S Q ↔ WB d fun b => Q b sl S := by
  cases d with
  | bl b => exact WM_iff rfl
  | _ => exact ⟨fun ⟨_, _, _, e, _⟩ => (by cases e), fun q => q.elim⟩
theorem wmB : WM (mB m) sl S QB ↔ WM m sl S fun d sl' S' => WB d fun b => QB b sl' S' := by
  unfold mB; rw [WM_bind]
  exact ⟨fun h => h.mono fun _ _ _ q => WB_of.mp q, fun h => h.mono fun _ _ _ q => WB_of.mpr q⟩
theorem w_mB : WM (mB m) (x :: sl) S QB ↔ WM m (x :: sl) S fun d sl' S' => WB d fun b => QB b sl' S' := wmB
theorem WI_of {c : Bool} {a b : M α} {Q : α → Sl → Sto → Prop} : WM (if c = true then a else b) sl S Q ↔ WI c (WM a sl S Q) (WM b sl S Q) := by
  cases c <;> exact .rfl
theorem w_tAnd {m n : M Bool} : WM (tAnd m n) (x :: sl) S QB ↔ WM m (x :: sl) S fun c sl1 S1 => WI c (WM n sl1 S1 QB) (QB false sl1 S1) := by
  unfold tAnd; rw [WM_bind]
  exact ⟨fun h => h.mono fun c _ _ q => match c, q with | false, q => (WM_iff rfl).mp q | true, q => q, fun h => h.mono fun c _ _ q => match c, q with | false, q => (WM_iff rfl).mpr q | true, q => q⟩
theorem w_tOr {m n : M Bool} : WM (tOr m n) (x :: sl) S QB ↔ WM m (x :: sl) S fun c sl1 S1 => WI c (QB true sl1 S1) (WM n sl1 S1 QB) := by
  unfold tOr; rw [WM_bind]
  exact ⟨fun h => h.mono fun c _ _ q => match c, q with | false, q => q | true, q => (WM_iff rfl).mp q, fun h => h.mono fun c _ _ q => match c, q with | false, q => q | true, q => (WM_iff rfl).mpr q⟩
theorem w_tNot {m : M Bool} : WM (tNot m) (x :: sl) S QB ↔ WM m (x :: sl) S fun c sl1 S1 => QB (!c) sl1 S1 := by
  unfold tNot; rw [WM_bind]
  exact ⟨fun h => h.mono fun c _ _ q => (WM_iff rfl).mp q, fun h => h.mono fun c _ _ q => (WM_iff rfl).mpr q⟩
theorem w_vAnd {m n : M D} : WM (vAnd m n) (x :: sl) S Q ↔ WM m (x :: sl) S fun d sl1 S1 => WB d fun c => WI c (WM n sl1 S1 Q) (Q (.bl false) sl1 S1) := by
  unfold vAnd; rw [WM_bind, wmB]
  exact ⟨fun h => h.mono fun d _ _ q => by cases d with
    | bl c => exact match c, q with | false, q => (WM_iff rfl).mp q | true, q => q
    | _ => exact q, fun h => h.mono fun d _ _ q => by cases d with
    | bl c => exact match c, q with | false, q => (WM_iff rfl).mpr q | true, q => q
    | _ => exact q⟩
theorem w_vOr {m n : M D} : WM (vOr m n) (x :: sl) S Q ↔ WM m (x :: sl) S fun d sl1 S1 => WB d fun c => WI c (Q (.bl true) sl1 S1) (WM n sl1 S1 Q) := by
  unfold vOr; rw [WM_bind, wmB]
  exact ⟨fun h => h.mono fun d _ _ q => by cases d with
    | bl c => exact match c, q with | false, q => q | true, q => (WM_iff rfl).mp q
    | _ => exact q, fun h => h.mono fun d _ _ q => by cases d with
    | bl c => exact match c, q with | false, q => q | true, q => (WM_iff rfl).mpr q
    | _ => exact q⟩
theorem w_vNot {m : M D} : WM (vNot m) (x :: sl) S Q ↔ WM m (x :: sl) S fun d sl1 S1 => WB d fun c => Q (.bl (!c)) sl1 S1 := by
  unfold vNot; rw [WM_bind, wmB]
  exact ⟨fun h => h.mono fun d _ _ q => by cases d with
    | bl c => exact (WM_iff rfl).mp q
    | _ => exact q, fun h => h.mono fun d _ _ q => by cases d with
    | bl c => exact (WM_iff rfl).mpr q
    | _ => exact q⟩
theorem w_vIf {t : M Bool} {m n : M D} : WM (vIf t m n) (x :: sl) S Q ↔ WM t (x :: sl) S fun c sl1 S1 => WI c (WM m sl1 S1 Q) (WM n sl1 S1 Q) := by
  unfold vIf; rw [WM_bind]
  exact ⟨fun h => h.mono fun c _ _ q => WI_of.mp q, fun h => h.mono fun c _ _ q => WI_of.mpr q⟩
theorem w_aN {Q : List α → Sl → Sto → Prop} : WM (aN (α := α)) (x :: sl) S Q ↔ Q [] (x :: sl) S := WM_iff rfl
theorem w_aC {m : M α} {n : M (List α)} {Q : List α → Sl → Sto → Prop} : WM (aC m n) (x :: sl) S Q ↔ WM m (x :: sl) S fun d sl1 S1 => WM n sl1 S1 fun ds sl2 S2 => Q (d :: ds) sl2 S2 := by
  unfold aC; rw [WM_bind]
  exact ⟨fun h => h.mono fun _ _ _ q => (WM_bind.mp q).mono fun _ _ _ q => (WM_iff rfl).mp q, fun h => h.mono fun _ _ _ q => WM_bind.mpr (q.mono fun _ _ _ q => (WM_iff rfl).mpr q)⟩
theorem WM_fun {f : Sl → Sto → Option (α × Sl × Sto)} {Q : α → Sl → Sto → Prop} : WM f sl S Q ↔ WM (fun _ _ => f sl S) sl S Q := .rfl
theorem w_aS {m : M Rf} {n : M (List D)} : WM (aS m n) (x :: sl) S QL ↔ WM m (x :: sl) S fun r sl1 S1 => WO (vw sl1 S1 r) fun d => WL d fun ds => WM n sl1 S1 fun es sl2 S2 => QL (ds ++ es) sl2 S2 := by
  unfold aS; rw [WM_bind]
  have key : ∀ (r : Rf) (sl1 : Sl) (S1 : Sto), WM (fun sl S => match vw sl S r with
      | some (.lst ds) => mBind n (fun es => mPure (ds ++ es)) sl S
      | some (.tup ds) => mBind n (fun es => mPure (ds ++ es)) sl S
      | _ => none) sl1 S1 QL ↔ WO (vw sl1 S1 r) fun d => WL d fun ds => WM n sl1 S1 fun es sl2 S2 => QL (ds ++ es) sl2 S2 := fun r sl1 S1 => by
    have g : ∀ ds, WM (mBind n fun es => mPure (ds ++ es)) sl1 S1 QL ↔ WM n sl1 S1 fun es sl2 S2 => QL (ds ++ es) sl2 S2 := fun ds => by
      rw [WM_bind]
      exact ⟨fun h => h.mono fun _ _ _ q => (WM_iff rfl).mp q, fun h => h.mono fun _ _ _ q => (WM_iff rfl).mpr q⟩
    rw [WM_fun]
    try dsimp only
    rcases e : vw sl1 S1 r with _ | d
    · exact ⟨fun ⟨_, _, _, e, _⟩ => (by cases e), fun q => (w_none.mp q).elim⟩
    · rw [w_some]
      cases d with
      | lst ds => exact g ds
      | tup ds => exact g ds
      | _ => exact ⟨fun ⟨_, _, _, e, _⟩ => (by cases e), fun q => q.elim⟩
  exact ⟨fun h => h.mono fun _ _ _ q => (key _ _ _).mp q, fun h => h.mono fun _ _ _ q => (key _ _ _).mpr q⟩
theorem WM_if {c : Prop} [Decidable c] {a : α} {Q : α → Sl → Sto → Prop} : WM (fun sl S => if c then some (a, sl, S) else none) sl S Q ↔ c ∧ Q a sl S := by
  by_cases h : c
  · simp only [if_pos h]; exact (WM_iff rfl).trans ⟨fun q => ⟨h, q⟩, fun q => q.2⟩
  · simp only [if_neg h]; exact ⟨fun ⟨_, _, _, e, _⟩ => (by cases e), fun q => absurd q.1 h⟩
theorem w_nFz : WM (nFz mo) (x :: sl) S Q ↔ WM mo (x :: sl) S fun ob sl1 S1 => Q ob.fz sl1 S1 := by
  unfold nFz; rw [WM_bind]
  exact ⟨fun h => h.mono fun _ _ _ q => (WM_iff rfl).mp q, fun h => h.mono fun _ _ _ q => (WM_iff rfl).mpr q⟩
theorem w_nBx : WM (nBx mo) (x :: sl) S Q ↔ WM mo (x :: sl) S fun ob sl1 S1 => Q (.loc S1.length) sl1 (S1 ++ [ob]) := by
  unfold nBx; rw [WM_bind]
  exact ⟨fun h => h.mono fun _ _ _ q => (WM_iff rfl).mp q, fun h => h.mono fun _ _ _ q => (WM_iff rfl).mpr q⟩
theorem w_nLst : WM (nLst ms) (x :: sl) S QO ↔ WM ms (x :: sl) S fun ds sl1 S1 => ds.length ≤ sizeLine ∧ QO (.lst ds) sl1 S1 := by
  unfold nLst; rw [WM_bind]
  exact ⟨fun h => h.mono fun _ _ _ q => WM_if.mp q, fun h => h.mono fun _ _ _ q => WM_if.mpr q⟩
theorem w_nTup : WM (nTup ms) (x :: sl) S Q ↔ WM ms (x :: sl) S fun ds sl1 S1 => ds.length ≤ sizeLine ∧ Q (.tup ds) sl1 S1 := by
  unfold nTup; rw [WM_bind]
  exact ⟨fun h => h.mono fun _ _ _ q => WM_if.mp q, fun h => h.mono fun _ _ _ q => WM_if.mpr q⟩
theorem w_nDct {t : Bool} : WM (nDct t) (x :: sl) S QO ↔ QO (.dct t []) (x :: sl) S := WM_iff rfl
theorem w_mCb {f : FB} {ma : M (List Rf)} : WM (mCb f ma) (x :: sl) S Q ↔ WM ma (x :: sl) S fun rs sl1 S1 => WO (f rs sl1 S1) fun d => Q d sl1 S1 := by
  unfold mCb; rw [WM_bind]
  exact ⟨fun h => h.mono fun _ _ _ q => WM_opt.mp q, fun h => h.mono fun _ _ _ q => WM_opt.mpr q⟩
theorem w_nCb {f : FO} {ma : M (List Rf)} : WM (nCb f ma) (x :: sl) S QO ↔ WM ma (x :: sl) S fun rs sl1 S1 => WO (f rs sl1 S1) fun d => QO d sl1 S1 := by
  unfold nCb; rw [WM_bind]
  exact ⟨fun h => h.mono fun _ _ _ q => WM_opt.mp q, fun h => h.mono fun _ _ _ q => WM_opt.mpr q⟩
theorem WM_call {o : Option (D × Sto)} {Q : D → Sl → Sto → Prop} : WM (fun sl S => o.map fun p => (p.1, sl, p.2)) sl S Q ↔ WO o fun p => Q p.1 sl p.2 := by
  cases o with
  | none => exact ⟨fun ⟨_, _, _, e, _⟩ => (by cases e), fun q => (w_none.mp q).elim⟩
  | some a => exact (WM_iff (a := a.1) rfl).trans (w_some (a := a) (Q := fun p => Q p.1 sl p.2)).symm
theorem w_call {f : FD} {dd : List D} : WM (mCall f dd ms) (x :: sl) S Q ↔ WM ms (x :: sl) S fun ds sl1 S1 => WO (f (ds ++ dd) S1) fun p => Q p.1 sl1 p.2 := by
  unfold mCall; rw [WM_bind]
  exact ⟨fun h => h.mono fun _ sl1 S1 q => (WM_call (S := S1)).mp q, fun h => h.mono fun _ sl1 S1 q => (WM_call (S := S1)).mpr q⟩
theorem w_meth {c n : Str} {f : FD} {dd : List D} : WM (mMeth c n f dd m ms) (x :: sl) S Q ↔ WM m (x :: sl) S fun r sl1 S1 => WO (vwD S1 r) fun v => WX v c fun fs => (fs.lookup n).isNone = true ∧ WM ms sl1 S1 fun ds sl2 S2 => WO (f (r :: (ds ++ dd)) S2) fun p => Q p.1 sl2 p.2 := by
  unfold mMeth; rw [WM_bind]
  have key : ∀ (r : D) (sl1 : Sl) (S1 : Sto), WM (fun sl S => match vwD S r with
      | some (.ins c' fs) => if c' = c ∧ (fs.lookup n).isNone = true then mBind ms (fun ds => fun sl S => (f (r :: (ds ++ dd)) S).map fun p => (p.1, sl, p.2)) sl S else none
      | _ => none) sl1 S1 Q ↔ WO (vwD S1 r) fun v => WX v c fun fs => (fs.lookup n).isNone = true ∧ WM ms sl1 S1 fun ds sl2 S2 => WO (f (r :: (ds ++ dd)) S2) fun p => Q p.1 sl2 p.2 := fun r sl1 S1 => by
    have g : WM (mBind ms (fun ds => fun sl S => (f (r :: (ds ++ dd)) S).map fun p => (p.1, sl, p.2))) sl1 S1 Q ↔ WM ms sl1 S1 fun ds sl2 S2 => WO (f (r :: (ds ++ dd)) S2) fun p => Q p.1 sl2 p.2 := by
      rw [WM_bind]
      exact ⟨fun h => h.mono fun _ sl1 S1 q => (WM_call (S := S1)).mp q, fun h => h.mono fun _ sl1 S1 q => (WM_call (S := S1)).mpr q⟩
    rw [WM_fun]
    try dsimp only
    rcases e : vwD S1 r with _ | d
    · exact ⟨fun ⟨_, _, _, e, _⟩ => (by cases e), fun q => (w_none.mp q).elim⟩
    · rw [w_some]
      cases d with
      | ins c' fs =>
        dsimp only [WX]
        by_cases hc : c' = c ∧ (fs.lookup n).isNone = true
        · simp only [if_pos hc]
          exact ⟨fun q => ⟨hc.1, hc.2, g.mp q⟩, fun q => g.mpr q.2.2⟩
        · simp only [if_neg hc]
          exact ⟨fun ⟨_, _, _, e, _⟩ => (by cases e), fun q => absurd ⟨q.1, q.2.1⟩ hc⟩
      | _ => exact ⟨fun ⟨_, _, _, e, _⟩ => (by cases e), fun q => q.elim⟩
  exact ⟨fun h => h.mono fun _ _ _ q => (key _ _ _).mp q, fun h => h.mono fun _ _ _ q => (key _ _ _).mpr q⟩
theorem WO_mk {o : Option (D × Sto)} {n : Nat} {Q : D × Sto → Prop} : WO (match o with | some (.non, S2) => some (D.loc n, S2) | _ => none) Q ↔ WO o fun p => p.1 = .non ∧ Q (.loc n, p.2) := by
  rcases o with _ | ⟨d, S2⟩
  · exact ⟨fun q => (w_none.mp q).elim, fun q => (w_none.mp q).elim⟩
  · rw [w_some]
    cases d with
    | non => exact w_some.trans ⟨fun q => ⟨rfl, q⟩, fun q => q.2⟩
    | _ => exact ⟨fun q => (w_none.mp q).elim, fun q => by cases q.1⟩
theorem w_mkK {c : Str} {f : FD} {ds : List D} {Q : D × Sto → Prop} : WO (mkK c f ds S) Q ↔ WO (f (.loc S.length :: ds) (S ++ [.ins c []])) fun p => p.1 = .non ∧ Q (.loc S.length, p.2) := WO_mk
end
end PS

namespace PS
open PySem L2
section
variable {α β : Type} {sl : Sl} {S : Sto} {x : Option SV}
variable {m : M D} {ms : M (List D)} {mo : M Ob} {mr : M Rf} {mt : M Bool} {Q : D → Sl → Sto → Prop} {QL : List D → Sl → Sto → Prop} {QO : Ob → Sl → Sto → Prop} {QR : Rf → Sl → Sto → Prop} {QB : Bool → Sl → Sto → Prop} {QF : Fl → Sl → Sto → Prop} {QG : Sl → Sto → Prop}
/-- a slice of a value -/
def slD (d : D) (lo hi : Option Int) : Option D := match d with
  | .lst ds => some (.lst (mSl.cutV' ds lo hi))
  | .tup ds => some (.tup (mSl.cutV' ds lo hi))
  | .str z => if z.length ≤ sizeLine then some (.str (cutS z lo hi)) else none
  | _ => none
def rvD : D → Option D
  | .lst ds => some (.lst ds.reverse)
  | .tup ds => some (.tup ds.reverse)
  | _ => none
/-- what a value gives that is walked -/
def itsOf (S : Sto) (d : D) : Option Its := match d with
  | .tup ds => some ⟨ds, none⟩
  | .str x => some ⟨x.cps.toList.map fun c => .str ⟨#[c]⟩, none⟩
  | d => (lsOf S d).map fun p => ⟨p.1, p.2⟩
def itsEn (S : Sto) (d : D) : Option Its := match d with
  | .tup ds => some ⟨(List.range ds.length).zipWith (fun i d => .pr [.int (i : Nat), d]) ds, none⟩
  | d => (lsOf S d).map fun p => ⟨(List.range p.1.length).zipWith (fun i d => .pr [.int (i : Nat), d]) p.1, p.2⟩
def itsZp (d e : D) : Option Its := match d, e with
  | .lst ds, .lst es => some ⟨ds.zipWith (fun d e => .pr [d, e]) es, none⟩
  | .tup ds, .tup es => some ⟨ds.zipWith (fun d e => .pr [d, e]) es, none⟩
  | _, _ => none
/-- the items of a range -/
def itsR1 (ds : List D) : Option Its := match ds with
  | [.int j] => if bd j = true then some ⟨rng 0 j.toNat, none⟩ else none
  | _ => none
def itsR2 (ds : List D) : Option Its := match ds with
  | [.int i, .int j] => if (bd i && bd j) = true then some ⟨rng i (j - i).toNat, none⟩ else none
  | _ => none
theorem WM_optI {f : M Its} {o : Option Its} {QI : Its → Sl → Sto → Prop} (h : f sl S = o.map fun i => (i, sl, S)) : WM f sl S QI ↔ WO o fun i => QI i sl S := by
  rw [WM_fun, h]
  cases o with
  | none => exact ⟨fun ⟨_, _, _, e, _⟩ => (by cases e), fun q => (w_none.mp q).elim⟩
  | some a => exact (WM_iff rfl).trans (by rw [w_some])
theorem w_some' {o : Option α} {a : α} {Q : α → Prop} (h : o = some a) : WO o Q ↔ Q a := by rw [h]; exact w_some
/-- the same at each state -/
theorem WM.congr {m : M α} {Q Q' : α → Sl → Sto → Prop} (k : ∀ a sl' S', Q a sl' S' ↔ Q' a sl' S') : WM m sl S Q ↔ WM m sl S Q' := ⟨fun h => h.mono fun _ _ _ => (k _ _ _).mp, fun h => h.mono fun _ _ _ => (k _ _ _).mpr⟩
theorem WO.congr {o : Option α} {Q Q' : α → Prop} (k : ∀ a, Q a ↔ Q' a) : WO o Q ↔ WO o Q' := ⟨fun h => h.mono fun _ => (k _).mp, fun h => h.mono fun _ => (k _).mpr⟩
/-- a match on what a program gives -/
theorem WM_match {m : M α} {f : α → M β} {Q : β → Sl → Sto → Prop} : WM (fun sl S => match m sl S with
    | some (a, sl', S') => f a sl' S'
    | none => none) sl S Q ↔ WM m sl S fun a sl' S' => WM (f a) sl' S' Q := WM_bind (m := m) (f := f)
theorem w_mIs {f : PyData → Bool} : WM (mIs f mr) (x :: sl) S Q ↔ WM mr (x :: sl) S fun r sl1 S1 => WO (vw sl1 S1 r) fun d => pl d = true ∧ Q (.bl (f (py d))) sl1 S1 := by
  unfold mIs; rw [WM_bind]
  refine WM.congr fun r sl1 S1 => ?_
  rw [WM_fun]; try dsimp only
  rcases e : vw sl1 S1 r with _ | d
  · exact ⟨fun ⟨_, _, _, e, _⟩ => (by cases e), fun q => (w_none.mp q).elim⟩
  · rw [w_some]
    by_cases h : pl d = true
    · simp only [if_pos h]; exact (WM_iff rfl).trans ⟨fun q => ⟨h, q⟩, fun q => q.2⟩
    · simp only [if_neg h]; exact ⟨fun ⟨_, _, _, e, _⟩ => (by cases e), fun q => absurd q.1 h⟩
theorem w_mCh {f g : F2} {ma mb mc : M Rf} : WM (mCh f g ma mb mc) (x :: sl) S Q ↔ WM ma (x :: sl) S fun a sl1 S1 => WM mb sl1 S1 fun b sl2 S2 => WO (f sl2 S2 a b) fun d => WB d fun c => WI c (WM mc sl2 S2 fun z sl3 S3 => WO (g sl3 S3 b z) fun d => Q d sl3 S3) (Q (.bl false) sl2 S2) := by
  unfold mCh; rw [WM_bind]
  refine WM.congr fun a sl1 S1 => ?_
  rw [WM_bind]
  refine WM.congr fun b sl2 S2 => ?_
  rw [WM_fun]; try dsimp only
  rcases e : f sl2 S2 a b with _ | d
  · exact ⟨fun ⟨_, _, _, e, _⟩ => (by cases e), fun q => (w_none.mp q).elim⟩
  · rw [w_some]
    cases d with
    | bl c =>
      cases c
      · exact (WM_iff rfl)
      · show WM (m2 g (mPure b) mc) sl2 S2 Q ↔ WM mc sl2 S2 _
        unfold m2; rw [WM_bind]
        refine (WM_iff rfl).trans ?_
        rw [WM_bind]
        exact WM.congr fun z sl3 S3 => WM_opt
    | _ => exact ⟨fun ⟨_, _, _, e, _⟩ => (by cases e), fun q => q.elim⟩
theorem w_oN {QN : Option Int → Sl → Sto → Prop} : WM oN (x :: sl) S QN ↔ QN none (x :: sl) S := WM_iff rfl
theorem w_oS {QN : Option Int → Sl → Sto → Prop} : WM (oS m) (x :: sl) S QN ↔ WM m (x :: sl) S fun d sl1 S1 => WN d fun i => QN (some i) sl1 S1 := by
  unfold oS; rw [WM_bind]
  refine WM.congr fun d sl1 S1 => ?_
  cases d with
  | int i => exact WM_iff rfl
  | _ => exact ⟨fun ⟨_, _, _, e, _⟩ => (by cases e), fun q => q.elim⟩
theorem w_mSl {ml mh : M (Option Int)} : WM (mSl mr ml mh) (x :: sl) S Q ↔ WM mr (x :: sl) S fun r sl1 S1 => WM ml sl1 S1 fun lo sl2 S2 => WM mh sl2 S2 fun hi sl3 S3 => WO (vw sl3 S3 r) fun d => WO (slD d lo hi) fun e => Q e sl3 S3 := by
  unfold mSl; rw [WM_bind]
  refine WM.congr fun r sl1 S1 => ?_
  rw [WM_bind]
  refine WM.congr fun lo sl2 S2 => ?_
  rw [WM_bind]
  refine WM.congr fun hi sl3 S3 => ?_
  rw [WM_fun]; try dsimp only
  rcases e : vw sl3 S3 r with _ | d
  · exact ⟨fun ⟨_, _, _, e, _⟩ => (by cases e), fun q => (w_none.mp q).elim⟩
  · rw [w_some]
    cases d with
    | lst ds => exact (WM_iff rfl).trans (by simp only [slD, rvD, itsOf, itsEn, itsZp, itsR1, itsR2, lsOf, Option.map_some, w_some, ↓reduceIte, *])
    | tup ds => exact (WM_iff rfl).trans (by simp only [slD, rvD, itsOf, itsEn, itsZp, itsR1, itsR2, lsOf, Option.map_some, w_some, ↓reduceIte, *])
    | str z =>
      dsimp only [slD]
      by_cases h : z.length ≤ sizeLine
      · simp only [if_pos h]; exact (WM_iff rfl).trans (by simp only [slD, rvD, itsOf, itsEn, itsZp, itsR1, itsR2, lsOf, Option.map_some, w_some, ↓reduceIte, *])
      · simp only [if_neg h]; exact ⟨fun ⟨_, _, _, e, _⟩ => (by cases e), fun q => (w_none.mp q).elim⟩
    | _ => exact ⟨fun ⟨_, _, _, e, _⟩ => (by cases e), fun q => (w_none.mp q).elim⟩
theorem w_mRev : WM (mRev mr) (x :: sl) S Q ↔ WM mr (x :: sl) S fun r sl1 S1 => WO (vw sl1 S1 r) fun d => WO (rvD d) fun e => Q e sl1 S1 := by
  unfold mRev; rw [WM_bind]
  refine WM.congr fun r sl1 S1 => ?_
  rw [WM_fun]; try dsimp only
  rcases e : vw sl1 S1 r with _ | d
  · exact ⟨fun ⟨_, _, _, e, _⟩ => (by cases e), fun q => (w_none.mp q).elim⟩
  · rw [w_some]
    cases d with
    | lst ds => exact (WM_iff rfl).trans (by simp only [slD, rvD, itsOf, itsEn, itsZp, itsR1, itsR2, lsOf, Option.map_some, w_some, ↓reduceIte, *])
    | tup ds => exact (WM_iff rfl).trans (by simp only [slD, rvD, itsOf, itsEn, itsZp, itsR1, itsR2, lsOf, Option.map_some, w_some, ↓reduceIte, *])
    | _ => exact ⟨fun ⟨_, _, _, e, _⟩ => (by cases e), fun q => (w_none.mp q).elim⟩
theorem w_mFl {c f : Str} : WM (mFl c f mr) (x :: sl) S Q ↔ WM mr (x :: sl) S fun r sl1 S1 => WO (vw sl1 S1 r) fun v => WX v c fun fs => WO (fs.lookup f) fun d => Q d sl1 S1 := by
  unfold mFl; rw [WM_bind]
  refine WM.congr fun r sl1 S1 => ?_
  rw [WM_fun]; try dsimp only
  rcases e : vw sl1 S1 r with _ | d
  · exact ⟨fun ⟨_, _, _, e, _⟩ => (by cases e), fun q => (w_none.mp q).elim⟩
  · rw [w_some]
    cases d with
    | ins c' fs =>
      dsimp only [WX]
      by_cases h : c' = c
      · simp only [if_pos h]
        exact WM_opt.trans ⟨fun q => ⟨h, q⟩, fun q => q.2⟩
      · simp only [if_neg h]; exact ⟨fun ⟨_, _, _, e, _⟩ => (by cases e), fun q => absurd q.1 h⟩
    | _ => exact ⟨fun ⟨_, _, _, e, _⟩ => (by cases e), fun q => q.elim⟩
def W3 (o : Option (D × Sl × Sto)) (Q : D → Sl → Sto → Prop) : Prop := WO o fun p => Q p.1 p.2.1 p.2.2
theorem w3_some {d : D} {sl' : Sl} {S' : Sto} : W3 (some (d, sl', S')) Q ↔ Q d sl' S' := w_some
theorem w3_none : W3 none Q ↔ False := w_none
theorem w3_ite {c : Prop} [Decidable c] {o : Option (D × Sl × Sto)} : W3 (if c then o else none) Q ↔ c ∧ W3 o Q := w_ite
theorem w3_map {f : α → D × Sl × Sto} {o : Option α} : W3 (o.map f) Q ↔ WO o fun a => Q (f a).1 (f a).2.1 (f a).2.2 := w_map
theorem WM3 {f : FM} {r : Rf} {ds : List D} : WM (fun sl S => f r ds sl S) sl S Q ↔ W3 (f r ds sl S) Q :=
  ⟨fun ⟨a, s, T, e, q⟩ => ⟨(a, s, T), e, q⟩, fun ⟨p, e, q⟩ => ⟨p.1, p.2.1, p.2.2, e, q⟩⟩
theorem w_mMt {kd : D → Bool} {f : FM} : WM (mMt kd f mr ms) (x :: sl) S Q ↔ WM mr (x :: sl) S fun r sl1 S1 => WO (vw sl1 S1 r) fun d => kd d = true ∧ WM ms sl1 S1 fun ds sl2 S2 => W3 (f r ds sl2 S2) Q := by
  unfold mMt; rw [WM_bind]
  refine WM.congr fun r sl1 S1 => ?_
  rw [WM_fun]; try dsimp only
  rcases e : vw sl1 S1 r with _ | d
  · exact ⟨fun ⟨_, _, _, e, _⟩ => (by cases e), fun q => (w_none.mp q).elim⟩
  · rw [w_some]
    dsimp only
    by_cases h : kd d = true
    · simp only [if_pos h]
      rw [← WM_fun, WM_bind]
      exact ⟨fun q => ⟨h, q.mono fun _ _ _ q => WM3.mp q⟩, fun q => q.2.mono fun _ _ _ q => WM3.mpr q⟩
    · simp only [if_neg h]; exact ⟨fun ⟨_, _, _, e, _⟩ => (by cases e), fun q => absurd q.1 h⟩
/-- a method of two kinds -/
def WK (a b : Bool) (A B : Prop) : Prop := if a = true then A else if b = true then B else False
theorem wk_1 {b : Bool} {A B : Prop} : WK true b A B ↔ A := by simp [WK]
theorem wk_2 {A B : Prop} : WK false true A B ↔ B := by simp [WK]
theorem w_mMt2 {k1 k2 : D → Bool} {f g : FM} : WM (mMt2 k1 k2 f g mr ms) (x :: sl) S Q ↔ WM mr (x :: sl) S fun r sl1 S1 => WO (vw sl1 S1 r) fun d => WK (k1 d) (k2 d) (WM ms sl1 S1 fun ds sl2 S2 => W3 (f r ds sl2 S2) Q) (WM ms sl1 S1 fun ds sl2 S2 => W3 (g r ds sl2 S2) Q) := by
  unfold mMt2; rw [WM_bind]
  refine WM.congr fun r sl1 S1 => ?_
  rw [WM_fun]; try dsimp only
  rcases e : vw sl1 S1 r with _ | d
  · exact ⟨fun ⟨_, _, _, e, _⟩ => (by cases e), fun q => (w_none.mp q).elim⟩
  · rw [w_some]
    dsimp only [WK]
    by_cases h : k1 d = true
    · simp only [if_pos h]
      rw [← WM_fun, WM_bind]
      exact WM.congr fun _ _ _ => WM3
    · simp only [if_neg h]
      by_cases h2 : k2 d = true
      · simp only [if_pos h2]
        rw [← WM_fun, WM_bind]
        exact WM.congr fun _ _ _ => WM3
      · simp only [if_neg h2]; exact ⟨fun ⟨_, _, _, e, _⟩ => (by cases e), fun q => q.elim⟩

/-! ranges, what is walked -/
theorem WM_N {f : Int → M α} {d : D} {Q : α → Sl → Sto → Prop} : WM (fun sl S => match d with | .int i => f i sl S | _ => none) sl S Q ↔ WN d fun i => WM (f i) sl S Q := by
  cases d with
  | int i => exact .rfl
  | _ => exact ⟨fun ⟨_, _, _, e, _⟩ => (by cases e), fun q => q.elim⟩
theorem w_rg1 {Q2 : Int × Int → Sl → Sto → Prop} : WM (rg1 m) (x :: sl) S Q2 ↔ WM m (x :: sl) S fun d sl1 S1 => WN d fun j => Q2 (0, j) sl1 S1 := by
  unfold rg1; rw [WM_bind]
  refine WM.congr fun d sl1 S1 => ?_
  cases d with
  | int i => exact WM_iff rfl
  | _ => exact ⟨fun ⟨_, _, _, e, _⟩ => (by cases e), fun q => q.elim⟩
theorem w_rg2 {n : M D} {Q2 : Int × Int → Sl → Sto → Prop} : WM (rg2 m n) (x :: sl) S Q2 ↔ WM m (x :: sl) S fun d sl1 S1 => WM n sl1 S1 fun e sl2 S2 => WN d fun i => WN e fun j => Q2 (i, j) sl2 S2 := by
  unfold rg2; rw [WM_bind]
  refine WM.congr fun d sl1 S1 => ?_
  rw [WM_bind]
  refine WM.congr fun e sl2 S2 => ?_
  cases d with
  | int i =>
    cases e with
    | int j => exact WM_iff rfl
    | _ => exact ⟨fun ⟨_, _, _, e, _⟩ => (by cases e), fun q => q.elim⟩
  | _ => exact ⟨fun ⟨_, _, _, e, _⟩ => (by cases e), fun q => q.elim⟩
theorem w_nLRg {mp : M (Int × Int)} : WM (nLRg mp) (x :: sl) S QO ↔ WM mp (x :: sl) S fun p sl1 S1 => rgOkB p.1 p.2 = true ∧ QO (.lst (rng p.1 (p.2 - p.1).toNat)) sl1 S1 := by
  unfold nLRg; rw [WM_bind]
  exact WM.congr fun _ _ _ => WM_if
theorem w_mTRg {mp : M (Int × Int)} : WM (mTRg mp) (x :: sl) S Q ↔ WM mp (x :: sl) S fun p sl1 S1 => rgOkB p.1 p.2 = true ∧ Q (.tup (rng p.1 (p.2 - p.1).toNat)) sl1 S1 := by
  unfold mTRg; rw [WM_bind]
  exact WM.congr fun _ _ _ => WM_if
variable {QI : Its → Sl → Sto → Prop}
theorem w_iV : WM (iV m) (x :: sl) S QI ↔ WM m (x :: sl) S fun d sl1 S1 => WO (itsOf S1 d) fun its => QI its sl1 S1 := by
  unfold iV; rw [WM_bind]
  refine WM.congr fun d sl1 S1 => ?_
  cases d with
  | tup ds => exact (WM_iff rfl).trans (by simp only [slD, rvD, itsOf, itsEn, itsZp, itsR1, itsR2, lsOf, Option.map_some, w_some, ↓reduceIte, *])
  | str z => exact (WM_iff rfl).trans (by simp only [slD, rvD, itsOf, itsEn, itsZp, itsR1, itsR2, lsOf, Option.map_some, w_some, ↓reduceIte, *])
  | lst ds => exact (WM_iff rfl).trans (by simp only [slD, rvD, itsOf, itsEn, itsZp, itsR1, itsR2, lsOf, Option.map_some, w_some, ↓reduceIte, *])
  | loc n =>
    dsimp only [itsOf]
    rw [WM_fun]; try dsimp only
    rcases lsOf S1 (.loc n) with _ | p
    · exact ⟨fun ⟨_, _, _, e, _⟩ => (by cases e), fun q => (w_none.mp q).elim⟩
    · exact (WM_iff rfl).trans (by simp only [slD, rvD, itsOf, itsEn, itsZp, itsR1, itsR2, lsOf, Option.map_some, w_some, ↓reduceIte, *])
  | _ => exact ⟨fun ⟨_, _, _, e, _⟩ => (by cases e), fun q => (w_none.mp q).elim⟩
theorem w_iEnA : WM (iEnA m) (x :: sl) S QI ↔ WM m (x :: sl) S fun d sl1 S1 => WO (itsEn S1 d) fun its => QI its sl1 S1 := by
  unfold iEnA; rw [WM_bind]
  refine WM.congr fun d sl1 S1 => ?_
  cases d with
  | tup ds => exact (WM_iff rfl).trans (by simp only [slD, rvD, itsOf, itsEn, itsZp, itsR1, itsR2, lsOf, Option.map_some, w_some, ↓reduceIte, *])
  | lst ds => exact (WM_iff rfl).trans (by simp only [slD, rvD, itsOf, itsEn, itsZp, itsR1, itsR2, lsOf, Option.map_some, w_some, ↓reduceIte, *])
  | loc n =>
    dsimp only [itsEn]
    rw [WM_fun]; try dsimp only
    rcases lsOf S1 (.loc n) with _ | p
    · exact ⟨fun ⟨_, _, _, e, _⟩ => (by cases e), fun q => (w_none.mp q).elim⟩
    · exact (WM_iff rfl).trans (by simp only [slD, rvD, itsOf, itsEn, itsZp, itsR1, itsR2, lsOf, Option.map_some, w_some, ↓reduceIte, *])
  | _ => exact ⟨fun ⟨_, _, _, e, _⟩ => (by cases e), fun q => (w_none.mp q).elim⟩
theorem w_iZp {n : M D} : WM (iZp m n) (x :: sl) S QI ↔ WM m (x :: sl) S fun d sl1 S1 => WM n sl1 S1 fun e sl2 S2 => WO (itsZp d e) fun its => QI its sl2 S2 := by
  unfold iZp; rw [WM_bind]
  refine WM.congr fun d sl1 S1 => ?_
  rw [WM_bind]
  exact WM.congr fun e sl2 S2 => WM_optI (by cases d <;> cases e <;> rfl)
theorem w_iR1 : WM (iR1 ms) (x :: sl) S QI ↔ WM ms (x :: sl) S fun ds sl1 S1 => WO (itsR1 ds) fun its => QI its sl1 S1 := by
  unfold iR1; rw [WM_bind]
  refine WM.congr fun ds sl1 S1 => WM_optI ?_
  rcases ds with _ | ⟨d, _ | ⟨e, l⟩⟩
  · rfl
  · cases d with
    | int i => dsimp only [itsR1]; by_cases h : bd i = true <;> simp [h]
    | _ => rfl
  · cases d <;> rfl
theorem w_iR2 : WM (iR2 ms) (x :: sl) S QI ↔ WM ms (x :: sl) S fun ds sl1 S1 => WO (itsR2 ds) fun its => QI its sl1 S1 := by
  unfold iR2; rw [WM_bind]
  refine WM.congr fun ds sl1 S1 => WM_optI ?_
  rcases ds with _ | ⟨d, _ | ⟨e, _ | ⟨f, l⟩⟩⟩
  · rfl
  · cases d <;> rfl
  · cases d with
    | int i =>
      cases e with
      | int j => dsimp only [itsR2]; by_cases h : (bd i && bd j) = true <;> simp [h]
      | _ => rfl
    | _ => cases e <;> rfl
  · cases d <;> cases e <;> rfl

/-! statements -/
theorem w_nx : WM sNx (x :: sl) S QF ↔ QF .nx (x :: sl) S := WM_iff rfl
theorem w_bk : WM sBk (x :: sl) S QF ↔ QF .bk (x :: sl) S := WM_iff rfl
theorem w_ct : WM sCt (x :: sl) S QF ↔ QF .ct (x :: sl) S := WM_iff rfl
theorem w_no : WM sNo sl S QF ↔ False := ⟨fun ⟨_, _, _, e, _⟩ => (by cases e), fun q => q.elim⟩
theorem w_seq {a b : MS} : WM (sSeq a b) (x :: sl) S QF ↔ WM a (x :: sl) S fun fl sl' S' => WQ fl (WM b sl' S' QF) (QF fl sl' S') := by
  constructor
  · rintro ⟨fl, s, T, e, q⟩
    unfold sSeq at e
    rcases ea : a (x :: sl) S with _ | ⟨fa, s1, S1⟩
    · rw [ea] at e; cases e
    · rw [ea] at e
      refine ⟨fa, s1, S1, ea, ?_⟩
      cases fa with
      | nx => exact ⟨fl, s, T, e, q⟩
      | _ => cases e; exact q
  · rintro ⟨fa, s1, S1, ea, q⟩
    cases fa with
    | nx =>
      obtain ⟨fl, s, T, e, q⟩ := q
      exact ⟨fl, s, T, by unfold sSeq; rw [ea]; exact e, q⟩
    | _ => exact ⟨_, s1, S1, by unfold sSeq; rw [ea], q⟩
theorem w_ret : WM (sRet m) (x :: sl) S QF ↔ WM m (x :: sl) S fun d sl' S' => QF (.rt d) sl' S' := by
  rw [show sRet m = mBind m (fun d sl' S' => some (Fl.rt d, sl', S')) from by
    funext sl S; unfold sRet mBind; rcases m sl S with _ | ⟨_, _, _⟩ <;> rfl, WM_bind]
  exact WM.congr fun _ _ _ => WM_iff rfl
theorem w_drop : WM (sDrop m) (x :: sl) S QF ↔ WM m (x :: sl) S fun d sl' S' => QF .nx sl' S' := by
  rw [show sDrop m = mBind m (fun d sl' S' => some (Fl.nx, sl', S')) from by
    funext sl S; unfold sDrop mBind; rcases m sl S with _ | ⟨_, _, _⟩ <;> rfl, WM_bind]
  exact WM.congr fun _ _ _ => WM_iff rfl
theorem w_if {t : M Bool} {a b : MS} : WM (sIf t a b) (x :: sl) S QF ↔ WM t (x :: sl) S fun c sl1 S1 => WI c (WM a sl1 S1 QF) (WM b sl1 S1 QF) := by
  rw [show sIf t a b = mBind t (fun c sl1 S1 => if c = true then a sl1 S1 else b sl1 S1) from by
    funext sl S; unfold sIf mBind; rcases t sl S with _ | ⟨_, _, _⟩ <;> rfl, WM_bind]
  refine WM.congr fun c _ _ => ?_
  cases c <;> exact .rfl
theorem WM_g {g : MG} {d : D} : WM (fun sl S => match g d sl S with | some (sl2, S2) => some (Fl.nx, sl2, S2) | none => none) sl S QF ↔ WG g d sl S fun sl2 S2 => QF .nx sl2 S2 := by
  rw [WM_fun]; try dsimp only
  rcases e : g d sl S with _ | ⟨s2, S2⟩
  · exact ⟨fun ⟨_, _, _, e, _⟩ => (by cases e), fun ⟨_, _, e', _⟩ => by rw [e] at e'; cases e'⟩
  · exact (WM_iff rfl).trans ⟨fun q => ⟨_, _, e, q⟩, fun ⟨_, _, e', q⟩ => by rw [e] at e'; cases e'; exact q⟩
theorem w_asg {g : MG} : WM (sAsg m g) (x :: sl) S QF ↔ WM m (x :: sl) S fun d sl' S' => WG g d sl' S' fun sl2 S2 => QF .nx sl2 S2 := by
  rw [show sAsg m g = mBind m (fun d sl' S' => match g d sl' S' with | some (sl2, S2) => some (Fl.nx, sl2, S2) | none => none) from by
    funext sl S; unfold sAsg mBind; rcases m sl S with _ | ⟨_, _, _⟩ <;> rfl, WM_bind]
  exact WM.congr fun _ _ _ => WM_g
theorem w_own {i : Nat} : WM (sOwn i mo) (x :: sl) S QF ↔ WM mo (x :: sl) S fun ob sl' S' => i < sl'.length ∧ QF .nx (sl'.set i (some (.own ob))) S' := by
  rw [show sOwn i mo = mBind mo (fun ob sl' S' => if i < sl'.length then some (Fl.nx, sl'.set i (some (.own ob)), S') else none) from by
    funext sl S; unfold sOwn mBind; rcases mo sl S with _ | ⟨_, _, _⟩ <;> rfl, WM_bind]
  refine WM.congr fun ob sl' S' => ?_
  by_cases h : i < sl'.length
  · rw [WM_fun, if_pos h]; exact (WM_iff rfl).trans ⟨fun q => ⟨h, q⟩, fun q => q.2⟩
  · rw [WM_fun, if_neg h]; exact ⟨fun ⟨_, _, _, e, _⟩ => (by cases e), fun q => absurd q.1 h⟩
theorem w_par {is : List Nat} {ma : M (List AV)} : WM (sParA is ma) (x :: sl) S QF ↔ WM ma (x :: sl) S fun as sl' S' => WO (stAV is as sl') fun sl2 => QF .nx sl2 S' := by
  rw [show sParA is ma = mBind ma (fun as sl' S' => (stAV is as sl').map fun sl2 => (Fl.nx, sl2, S')) from by
    funext sl S; unfold sParA mBind; rcases ma sl S with _ | ⟨_, _, _⟩ <;> rfl, WM_bind]
  refine WM.congr fun as sl' S' => ?_
  rw [WM_fun]; try dsimp only
  rcases stAV is as sl' with _ | s2
  · exact ⟨fun ⟨_, _, _, e, _⟩ => (by cases e), fun q => (w_none.mp q).elim⟩
  · exact (WM_iff rfl).trans (by simp only [slD, rvD, itsOf, itsEn, itsZp, itsR1, itsR2, lsOf, Option.map_some, w_some, ↓reduceIte, *])
theorem w_avN {Q : List AV → Sl → Sto → Prop} : WM avN (x :: sl) S Q ↔ Q [] (x :: sl) S := WM_iff rfl
theorem w_avV {n : M (List AV)} {Q : List AV → Sl → Sto → Prop} : WM (avV m n) (x :: sl) S Q ↔ WM m (x :: sl) S fun d sl1 S1 => WM n sl1 S1 fun as sl2 S2 => Q (.v d :: as) sl2 S2 := by
  unfold avV; rw [WM_bind]
  refine WM.congr fun d sl1 S1 => ?_
  rw [WM_bind]
  exact WM.congr fun _ _ _ => WM_iff rfl
theorem w_avO {n : M (List AV)} {Q : List AV → Sl → Sto → Prop} : WM (avO mo n) (x :: sl) S Q ↔ WM mo (x :: sl) S fun d sl1 S1 => WM n sl1 S1 fun as sl2 S2 => Q (.o d :: as) sl2 S2 := by
  unfold avO; rw [WM_bind]
  refine WM.congr fun d sl1 S1 => ?_
  rw [WM_bind]
  exact WM.congr fun _ _ _ => WM_iff rfl
/-- a field is written -/
def stF (c f : Str) (d : D) (r : Rf) (sl : Sl) (S : Sto) : Option (Sl × Sto) := match obR sl S r with
  | some (cl, .ins c' fs) => if c' = c ∧ fs.length < 1000 then some (setC sl S cl (.ins c (putFD f d fs))) else none
  | _ => none
theorem stF_eq {c f : Str} : sFl c f mr m = mBind m fun d => mBind mr fun r => fun sl S => (stF c f d r sl S).map fun p => (Fl.nx, p.1, p.2) := by
  funext sl S
  unfold sFl mBind
  rcases m sl S with _ | ⟨d, sl1, S1⟩
  · rfl
  · dsimp only
    rcases mr sl1 S1 with _ | ⟨r, sl2, S2⟩
    · rfl
    · dsimp only
      unfold stF
      rcases obR sl2 S2 r with _ | ⟨cl, ob⟩
      · rfl
      · cases ob with
        | ins c' fs => by_cases h : c' = c ∧ fs.length < 1000 <;> simp [h]
        | _ => rfl
theorem w_sFl {c f : Str} : WM (sFl c f mr m) (x :: sl) S QF ↔ WM m (x :: sl) S fun d sl1 S1 => WM mr sl1 S1 fun r sl2 S2 => WO (stF c f d r sl2 S2) fun p => QF .nx p.1 p.2 := by
  rw [stF_eq, WM_bind]
  refine WM.congr fun d sl1 S1 => ?_
  rw [WM_bind]
  refine WM.congr fun r sl2 S2 => ?_
  rw [WM_fun]
  rcases stF c f d r sl2 S2 with _ | p
  · exact ⟨fun ⟨_, _, _, e, _⟩ => (by cases e), fun q => (w_none.mp q).elim⟩
  · exact (WM_iff rfl).trans (by simp only [w_some])
/-! targets -/
theorem w_gN {i : Nat} {d : D} : WG (gN i) d (x :: sl) S QG ↔ i < (x :: sl).length ∧ QG ((x :: sl).set i (some (.val d))) S := by
  unfold WG gN
  by_cases h : i < (x :: sl).length
  · simp only [if_pos h]
    exact ⟨fun ⟨_, _, e, q⟩ => (by cases e; exact ⟨h, q⟩), fun q => ⟨_, _, rfl, q.2⟩⟩
  · simp only [if_neg h]
    exact ⟨fun ⟨_, _, e, q⟩ => (by cases e), fun q => absurd q.1 h⟩
theorem w_gsN : WGs gsN [] (x :: sl) S QG ↔ QG (x :: sl) S := ⟨fun ⟨_, _, e, q⟩ => (by cases e; exact q), fun q => ⟨_, _, rfl, q⟩⟩
theorem w_gsC {g : MG} {gs : List D → Sl → Sto → Option (Sl × Sto)} {d : D} {ds : List D} : WGs (gsC g gs) (d :: ds) (x :: sl) S QG ↔ WG g d (x :: sl) S fun sl1 S1 => WGs gs ds sl1 S1 QG := by
  unfold WGs gsC WG
  dsimp only
  rcases e : g d (x :: sl) S with _ | ⟨s1, S1⟩
  · exact ⟨fun ⟨_, _, e, _⟩ => (by cases e), fun ⟨_, _, e, _⟩ => by cases e⟩
  · exact ⟨fun ⟨s2, S2, e, q⟩ => ⟨s1, S1, rfl, s2, S2, e, q⟩, fun ⟨_, _, e, s2, S2, e2, q⟩ => by cases e; exact ⟨s2, S2, e2, q⟩⟩
theorem w_gT_t {n : Nat} {gs : List D → Sl → Sto → Option (Sl × Sto)} {ds : List D} : WG (gT n gs) (.tup ds) (x :: sl) S QG ↔ ds.length = n ∧ WGs gs ds (x :: sl) S QG := by
  unfold WG gT WGs
  dsimp only
  by_cases h : ds.length = n
  · simp only [if_pos h]; exact ⟨fun q => ⟨h, q⟩, fun q => q.2⟩
  · simp only [if_neg h]; exact ⟨fun ⟨_, _, e, q⟩ => (by cases e), fun q => absurd q.1 h⟩
theorem w_gT_p {n : Nat} {gs : List D → Sl → Sto → Option (Sl × Sto)} {ds : List D} : WG (gT n gs) (.pr ds) (x :: sl) S QG ↔ ds.length = n ∧ WGs gs ds (x :: sl) S QG := by
  unfold WG gT WGs
  dsimp only
  by_cases h : ds.length = n
  · simp only [if_pos h]; exact ⟨fun q => ⟨h, q⟩, fun q => q.2⟩
  · simp only [if_neg h]; exact ⟨fun ⟨_, _, e, q⟩ => (by cases e), fun q => absurd q.1 h⟩
end
end PS

namespace PS
open PySem L2
section
variable {α β : Type} {sl : Sl} {S : Sto} {x : Option SV} {Q : D → Prop} {QB : Bool → Prop}
/-! operands -/
def vwC (S : Sto) : Option (Option SV) → Option D
  | some (some (.val d)) => vwD S d
  | some (some (.own ob)) => some ob.fz
  | _ => none
theorem vw_d {d : D} : vw sl S (.d d) = vwD S d := rfl
theorem vw_s {i : Nat} : vw sl S (.sl i) = vwC S (sl[i]?) := rfl
theorem vwC_v {d : D} : vwC S (some (some (.val d))) = vwD S d := rfl
theorem vwC_o {ob : Ob} : vwC S (some (some (.own ob))) = some ob.fz := rfl
theorem vwD_non : vwD S .non = some .non := rfl
theorem vwD_bl {b : Bool} : vwD S (.bl b) = some (.bl b) := rfl
theorem vwD_int {i : Int} : vwD S (.int i) = some (.int i) := rfl
theorem vwD_str {z : Str} : vwD S (.str z) = some (.str z) := rfl
theorem vwD_tup {ds : List D} : vwD S (.tup ds) = some (.tup ds) := rfl
theorem vwD_lst {ds : List D} : vwD S (.lst ds) = some (.lst ds) := rfl
theorem vwD_dct {t : Bool} {kvs : List (D × D)} : vwD S (.dct t kvs) = some (.dct t kvs) := rfl
theorem vwD_ins {c : Str} {fs : List (Str × D)} : vwD S (.ins c fs) = some (.ins c fs) := rfl
theorem vwD_loc {n : Nat} : vwD S (.loc n) = (S[n]?).map Ob.fz := rfl
theorem fz_lst {ds : List D} : Ob.fz (.lst ds) = .lst ds := rfl
theorem fz_dct {t : Bool} {kvs : List (D × D)} : Ob.fz (.dct t kvs) = .dct t kvs := rfl
theorem fz_ins {c : Str} {fs : List (Str × D)} : Ob.fz (.ins c fs) = .ins c fs := rfl
def dvC : Option (Option SV) → Option D
  | some (some (.val d)) => some d
  | _ => none
theorem dv_d {d : D} : dv sl (.d d) = some d := rfl
theorem dv_s {i : Nat} : dv sl (.sl i) = dvC (sl[i]?) := rfl
theorem dvC_v {d : D} : dvC (some (some (.val d))) = some d := rfl
/-- what may be written at a slot -/
def obC (S : Sto) (i : Nat) : Option (Option SV) → Option (Cell × Ob)
  | some (some (.own ob)) => some (.inr i, ob)
  | some (some (.val (.loc n))) => (S[n]?).map fun ob => (.inl n, ob)
  | _ => none
theorem ob_s {i : Nat} : obR sl S (.sl i) = obC S i (sl[i]?) := by
  unfold obR cellR
  dsimp only
  rcases h : sl[i]? with _ | _ | d | ob
  · rfl
  · rfl
  · cases d <;> simp [obC, objAt]
  · simp [obC, objAt, h]
theorem ob_l {n : Nat} : obR sl S (.d (.loc n)) = (S[n]?).map fun ob => (.inl n, ob) := rfl
theorem obC_o {i : Nat} {ob : Ob} : obC S i (some (some (.own ob))) = some (.inr i, ob) := rfl
theorem obC_l {i n : Nat} : obC S i (some (some (.val (.loc n)))) = (S[n]?).map fun ob => (.inl n, ob) := rfl
theorem setC_r {i : Nat} {ob : Ob} : setC sl S (.inr i) ob = (sl.set i (some (.own ob)), S) := rfl
theorem setC_l {n : Nat} {ob : Ob} : setC sl S (.inl n) ob = (sl, S.set n ob) := rfl

/-! operators -/
theorem w_fI {c : Int → Int → Bool} {g : Int → Int → D} {a b : Rf} : WO (fI c g sl S a b) Q ↔ WO (vw sl S a) fun d => WO (vw sl S b) fun e => WN d fun i => WN e fun j => c i j = true ∧ Q (g i j) := by
  unfold fI
  rcases vw sl S a with _ | d
  · exact ⟨fun q => (w_none.mp q).elim, fun q => (w_none.mp q).elim⟩
  rw [w_some]
  rcases vw sl S b with _ | e
  · cases d <;> exact ⟨fun q => (w_none.mp q).elim, fun q => (w_none.mp q).elim⟩
  rw [w_some]
  cases d with
  | int i =>
    cases e with
    | int j => simp only [w_ite, w_some, wn_int]
    | _ => exact ⟨fun q => (w_none.mp q).elim, fun q => q.elim⟩
  | _ => cases e <;> exact ⟨fun q => (w_none.mp q).elim, fun q => q.elim⟩
theorem w_neg {a : Rf} : WO (gNeg sl S a) Q ↔ WO (vw sl S a) fun d => WN d fun i => Q (.int (-i)) := by
  unfold gNeg
  rcases vw sl S a with _ | d
  · exact ⟨fun q => (w_none.mp q).elim, fun q => (w_none.mp q).elim⟩
  rw [w_some]
  cases d with
  | int i => exact w_some
  | _ => exact ⟨fun q => (w_none.mp q).elim, fun q => q.elim⟩
def adD (a b : D) : Option D := match a, b with
  | .int i, .int j => some (.int (i + j))
  | .str a, .str b => if a.length + b.length ≤ sizeLine then some (.str (a ++ b)) else none
  | .lst a, .lst b => if a.length + b.length ≤ sizeLine then some (.lst (a ++ b)) else none
  | .tup a, .tup b => if a.length + b.length ≤ sizeLine then some (.tup (a ++ b)) else none
  | _, _ => none
theorem w_add {a b : Rf} : WO (gAdd sl S a b) Q ↔ WO (vw sl S a) fun d => WO (vw sl S b) fun e => WO (adD d e) Q := by
  unfold gAdd
  rcases vw sl S a with _ | d
  · exact ⟨fun q => (w_none.mp q).elim, fun q => (w_none.mp q).elim⟩
  rw [w_some]
  rcases vw sl S b with _ | e
  · cases d <;> exact ⟨fun q => (w_none.mp q).elim, fun q => (w_none.mp q).elim⟩
  rw [w_some]
  cases d <;> cases e <;> exact .rfl
theorem ad_int {i j : Int} : adD (.int i) (.int j) = some (.int (i + j)) := rfl
theorem ad_str {a b : Str} : adD (.str a) (.str b) = if a.length + b.length ≤ sizeLine then some (.str (a ++ b)) else none := rfl
theorem ad_lst {a b : List D} : adD (.lst a) (.lst b) = if a.length + b.length ≤ sizeLine then some (.lst (a ++ b)) else none := rfl
theorem ad_tup {a b : List D} : adD (.tup a) (.tup b) = if a.length + b.length ≤ sizeLine then some (.tup (a ++ b)) else none := rfl
/-- two values can be compared -/
def eqOk (a b : D) : Prop := pl a = true ∧ pl b = true ∧ min (py a).depth (py b).depth ≤ 64
theorem w_eq {a b : Rf} : WO (gEq false sl S a b) Q ↔ WO (vw sl S a) fun d => WO (vw sl S b) fun e => eqOk d e ∧ Q (.bl (deq d e)) := by
  unfold gEq
  rcases vw sl S a with _ | d
  · exact ⟨fun q => (w_none.mp q).elim, fun q => (w_none.mp q).elim⟩
  rw [w_some]
  rcases vw sl S b with _ | e
  · exact ⟨fun q => (w_none.mp q).elim, fun q => (w_none.mp q).elim⟩
  rw [w_some]
  simp only [w_ite, w_some, eqOk, Bool.false_eq_true, if_false]
theorem w_ne {a b : Rf} : WO (gEq true sl S a b) Q ↔ WO (vw sl S a) fun d => WO (vw sl S b) fun e => eqOk d e ∧ Q (.bl (!deq d e)) := by
  unfold gEq
  rcases vw sl S a with _ | d
  · exact ⟨fun q => (w_none.mp q).elim, fun q => (w_none.mp q).elim⟩
  rw [w_some]
  rcases vw sl S b with _ | e
  · exact ⟨fun q => (w_none.mp q).elim, fun q => (w_none.mp q).elim⟩
  rw [w_some]
  simp only [w_ite, w_some, eqOk, if_true]
/-- a value can be looked for -/
def inOk (d : D) (ds : List D) : Prop := pl d = true ∧ pls ds = true ∧ (py d).depth ≤ 60
def isIn (d : D) (ds : List D) : Bool := ds.any fun z => deq z d
/-- x in y; the second: as it stands -/
def inD (S : Sto) (y : D) (vx dx : Option D) (Q : Bool → Prop) : Prop := match y with
  | .lst ds => WO vx fun d => inOk d ds ∧ Q (isIn d ds)
  | .tup ds => WO vx fun d => inOk d ds ∧ Q (isIn d ds)
  | .dct t kvs => WO dx fun k => okKey t k = true ∧ Q (dlk kvs k).isSome
  | _ => False
theorem w_inG {neg : Bool} {a b : Rf} : WO (gIn neg sl S a b) Q ↔ WO (vw sl S b) fun y => inD S y (vw sl S a) (dv sl a) fun c => Q (.bl (if neg then !c else c)) := by
  unfold gIn
  rcases vw sl S b with _ | y
  · exact ⟨fun q => (w_none.mp q).elim, fun q => (w_none.mp q).elim⟩
  rw [w_some]
  cases y with
  | lst ds =>
    dsimp only [inD]
    rcases vw sl S a with _ | d
    · exact ⟨fun q => (w_none.mp q).elim, fun q => (w_none.mp q).elim⟩
    · rw [w_some]; simp only [w_ite, w_some, inOk, isIn]
  | tup ds =>
    dsimp only [inD]
    rcases vw sl S a with _ | d
    · exact ⟨fun q => (w_none.mp q).elim, fun q => (w_none.mp q).elim⟩
    · rw [w_some]; simp only [w_ite, w_some, inOk, isIn]
  | dct t kvs =>
    dsimp only [inD]
    rcases dv sl a with _ | d
    · exact ⟨fun q => (w_none.mp q).elim, fun q => (w_none.mp q).elim⟩
    · rw [w_some]; simp only [w_ite, w_some]
  | _ => exact ⟨fun q => (w_none.mp q).elim, fun q => q.elim⟩
theorem w_in {a b : Rf} : WO (gIn false sl S a b) Q ↔ WO (vw sl S b) fun y => inD S y (vw sl S a) (dv sl a) fun c => Q (.bl c) := w_inG
theorem w_nin {a b : Rf} : WO (gIn true sl S a b) Q ↔ WO (vw sl S b) fun y => inD S y (vw sl S a) (dv sl a) fun c => Q (.bl (!c)) := w_inG
theorem in_lst {ds : List D} {vx dx : Option D} : inD S (.lst ds) vx dx QB ↔ WO vx fun d => inOk d ds ∧ QB (isIn d ds) := .rfl
theorem in_tup {ds : List D} {vx dx : Option D} : inD S (.tup ds) vx dx QB ↔ WO vx fun d => inOk d ds ∧ QB (isIn d ds) := .rfl
theorem in_dct {t : Bool} {kvs : List (D × D)} {vx dx : Option D} : inD S (.dct t kvs) vx dx QB ↔ WO dx fun k => okKey t k = true ∧ QB (dlk kvs k).isSome := .rfl
def ixD (a : D) (vy dy : Option D) (Q : D → Prop) : Prop := match a with
  | .lst ds => WO vy fun b => WN b fun i => WO (atI ds i) Q
  | .tup ds => WO vy fun b => WN b fun i => WO (atI ds i) Q
  | .str z => WO vy fun b => WN b fun i => z.length ≤ sizeLine ∧ WO (atI z.cps.toList i) fun c => Q (.str ⟨#[c]⟩)
  | .dct t kvs => WO dy fun k => okKey t k = true ∧ WO (dlk kvs k) Q
  | _ => False
theorem w_ix {a b : Rf} : WO (gIx sl S a b) Q ↔ WO (vw sl S a) fun d => ixD d (vw sl S b) (dv sl b) Q := by
  unfold gIx
  rcases vw sl S a with _ | d
  · exact ⟨fun q => (w_none.mp q).elim, fun q => (w_none.mp q).elim⟩
  rw [w_some]
  cases d with
  | lst ds =>
    dsimp only [ixD]
    rcases vw sl S b with _ | e
    · exact ⟨fun q => (w_none.mp q).elim, fun q => (w_none.mp q).elim⟩
    · rw [w_some]; cases e <;> first | exact .rfl | exact ⟨fun q => (w_none.mp q).elim, fun q => q.elim⟩
  | tup ds =>
    dsimp only [ixD]
    rcases vw sl S b with _ | e
    · exact ⟨fun q => (w_none.mp q).elim, fun q => (w_none.mp q).elim⟩
    · rw [w_some]; cases e <;> first | exact .rfl | exact ⟨fun q => (w_none.mp q).elim, fun q => q.elim⟩
  | str z =>
    dsimp only [ixD]
    rcases vw sl S b with _ | e
    · exact ⟨fun q => (w_none.mp q).elim, fun q => (w_none.mp q).elim⟩
    · rw [w_some]
      cases e with
      | int i => simp only [w_ite, w_map, wn_int]
      | _ => exact ⟨fun q => (w_none.mp q).elim, fun q => q.elim⟩
  | dct t kvs =>
    dsimp only [ixD]
    rcases dv sl b with _ | e
    · exact ⟨fun q => (w_none.mp q).elim, fun q => (w_none.mp q).elim⟩
    · rw [w_some]; simp only [w_ite]
  | _ => exact ⟨fun q => (w_none.mp q).elim, fun q => q.elim⟩
theorem ix_lst {ds : List D} {vy dy : Option D} : ixD (.lst ds) vy dy Q ↔ WO vy fun b => WN b fun i => WO (atI ds i) Q := .rfl
theorem ix_tup {ds : List D} {vy dy : Option D} : ixD (.tup ds) vy dy Q ↔ WO vy fun b => WN b fun i => WO (atI ds i) Q := .rfl
theorem ix_str {z : Str} {vy dy : Option D} : ixD (.str z) vy dy Q ↔ WO vy fun b => WN b fun i => z.length ≤ sizeLine ∧ WO (atI z.cps.toList i) fun c => Q (.str ⟨#[c]⟩) := .rfl
theorem ix_dct {t : Bool} {kvs : List (D × D)} {vy dy : Option D} : ixD (.dct t kvs) vy dy Q ↔ WO dy fun k => okKey t k = true ∧ WO (dlk kvs k) Q := .rfl
theorem at_0 {α : Type} {a : α} {l : List α} : atI (a :: l) 0 = some a := by
  have h : (0 : Int) < ((a :: l).length : Int) := by simp only [List.length_cons]; omega
  unfold atI ixN
  rw [if_pos (by decide), if_pos h]; rfl
theorem at_1 {α : Type} {a b : α} {l : List α} : atI (a :: b :: l) 1 = some b := by
  have h : (1 : Int) < ((a :: b :: l).length : Int) := by simp only [List.length_cons]; omega
  unfold atI ixN
  rw [if_pos (by decide), if_pos h]; rfl
theorem at_2 {α : Type} {a b c : α} {l : List α} : atI (a :: b :: c :: l) 2 = some c := by
  have h : (2 : Int) < ((a :: b :: c :: l).length : Int) := by simp only [List.length_cons]; omega
  unfold atI ixN
  rw [if_pos (by decide), if_pos h]; rfl
theorem at_3 {α : Type} {a b c d : α} {l : List α} : atI (a :: b :: c :: d :: l) 3 = some d := by
  have h : (3 : Int) < ((a :: b :: c :: d :: l).length : Int) := by simp only [List.length_cons]; omega
  unfold atI ixN
  rw [if_pos (by decide), if_pos h]; rfl
theorem at_4 {α : Type} {a b c d e : α} {l : List α} : atI (a :: b :: c :: d :: e :: l) 4 = some e := by
  have h : (4 : Int) < ((a :: b :: c :: d :: e :: l).length : Int) := by simp only [List.length_cons]; omega
  unfold atI ixN
  rw [if_pos (by decide), if_pos h]; rfl
theorem at_5 {α : Type} {a b c d e f : α} {l : List α} : atI (a :: b :: c :: d :: e :: f :: l) 5 = some f := by
  have h : (5 : Int) < ((a :: b :: c :: d :: e :: f :: l).length : Int) := by simp only [List.length_cons]; omega
  unfold atI ixN
  rw [if_pos (by decide), if_pos h]; rfl
theorem at_6 {α : Type} {a b c d e f g : α} {l : List α} : atI (a :: b :: c :: d :: e :: f :: g :: l) 6 = some g := by
  have h : (6 : Int) < ((a :: b :: c :: d :: e :: f :: g :: l).length : Int) := by simp only [List.length_cons]; omega
  unfold atI ixN
  rw [if_pos (by decide), if_pos h]; rfl
theorem at_n {α : Type} {l : List α} {i : Nat} (h : i < l.length) : atI l (i : Int) = some l[i] := by
  unfold atI ixN
  rw [if_pos (Int.natCast_nonneg i), if_pos (by omega)]
  simp [h]
theorem at_m1 {α : Type} {l : List α} {a : α} : atI (l ++ [a]) (-1) = some a := by
  unfold atI ixN
  rw [if_neg (by omega), if_pos (by simp; omega)]
  have : (-1 + ((l ++ [a]).length : Int)).toNat = l.length := by simp; omega
  simp only [Option.bind_some, this]
  simp
theorem isx_n {a b : Rf} {neg : Bool} {d : D} (h : dv sl b = some .non) (h2 : dv sl a = some d) (h3 : d ≠ .non) (h4 : ∀ l, d ≠ .pr l) (h5 : ∀ f, d ≠ .fn f) : gIs neg sl S a b = some (.bl neg) := by
  unfold gIs
  rw [h, h2]
  cases d <;> first | rfl | exact absurd rfl h3 | exact absurd rfl (h4 _) | exact absurd rfl (h5 _)
/-- is / is not -/
def isD (neg : Bool) (x y : D) : Option D := match y with
  | .non => (match x with
    | .non => some (.bl !neg)
    | .pr _ => none
    | .fn _ => none
    | _ => some (.bl neg))
  | .bl b => (match x with
    | .bl a => some (.bl (if neg then !decide (a = b) else decide (a = b)))
    | _ => none)
  | _ => none
theorem w_is {a b : Rf} {neg : Bool} : WO (gIs neg sl S a b) Q ↔ WO (dv sl b) fun y => WO (dv sl a) fun x => WO (isD neg x y) Q := by
  unfold gIs
  rcases dv sl b with _ | y
  · exact ⟨fun q => (w_none.mp q).elim, fun q => (w_none.mp q).elim⟩
  rw [w_some]
  rcases dv sl a with _ | z
  · cases y <;> exact ⟨fun q => (w_none.mp q).elim, fun q => (w_none.mp q).elim⟩
  rw [w_some]
  cases y <;> cases z <;> exact .rfl
theorem is_nn {neg : Bool} : isD neg .non .non = some (.bl !neg) := rfl
theorem is_in {neg : Bool} {i : Int} : isD neg (.int i) .non = some (.bl neg) := rfl
theorem is_tn {neg : Bool} {ds : List D} : isD neg (.tup ds) .non = some (.bl neg) := rfl
theorem is_ln {neg : Bool} {ds : List D} : isD neg (.lst ds) .non = some (.bl neg) := rfl
theorem is_sn {neg : Bool} {z : Str} : isD neg (.str z) .non = some (.bl neg) := rfl
theorem is_bn {neg : Bool} {b : Bool} : isD neg (.bl b) .non = some (.bl neg) := rfl
theorem is_bb {a b : Bool} : isD false (.bl a) (.bl b) = some (.bl (decide (a = b))) := rfl
theorem is_bbn {a b : Bool} : isD true (.bl a) (.bl b) = some (.bl (!decide (a = b))) := rfl

/-! built-in functions -/
def lenD : D → Option Int
  | .lst ds => some ds.length
  | .tup ds => some ds.length
  | .dct _ kvs => some kvs.length
  | .str x => if x.length ≤ sizeLine then some x.length else none
  | _ => none
theorem w_len {r : Rf} : WO (gLen [r] sl S) Q ↔ WO (vw sl S r) fun d => WO (lenD d) fun i => Q (.int i) := by
  unfold gLen
  dsimp only
  rcases vw sl S r with _ | d
  · exact ⟨fun q => (w_none.mp q).elim, fun q => (w_none.mp q).elim⟩
  rw [w_some]
  cases d with
  | str z => dsimp only [lenD]; simp only [w_ite, w_some]
  | lst z => dsimp only [lenD]; simp only [w_some]
  | tup z => dsimp only [lenD]; simp only [w_some]
  | dct t z => dsimp only [lenD]; simp only [w_some]
  | _ => exact ⟨fun q => (w_none.mp q).elim, fun q => (w_none.mp q).elim⟩
theorem len_lst {ds : List D} : lenD (.lst ds) = some (ds.length : Int) := rfl
theorem len_tup {ds : List D} : lenD (.tup ds) = some (ds.length : Int) := rfl
theorem len_dct {t : Bool} {kvs : List (D × D)} : lenD (.dct t kvs) = some (kvs.length : Int) := rfl
theorem len_str {z : Str} : lenD (.str z) = if z.length ≤ sizeLine then some (z.length : Int) else none := rfl
def intD : D → Option Int
  | .int i => some i
  | .bl b => some (if b then 1 else 0)
  | _ => none
theorem w_int {r : Rf} : WO (gInt [r] sl S) Q ↔ WO (vw sl S r) fun d => WO (intD d) fun i => Q (.int i) := by
  unfold gInt
  dsimp only
  rcases vw sl S r with _ | d
  · exact ⟨fun q => (w_none.mp q).elim, fun q => (w_none.mp q).elim⟩
  rw [w_some]
  cases d with
  | int z => dsimp only [intD]; simp only [w_some]
  | bl z => dsimp only [intD]; simp only [w_some]
  | _ => exact ⟨fun q => (w_none.mp q).elim, fun q => (w_none.mp q).elim⟩
theorem int_int {i : Int} : intD (.int i) = some i := rfl
theorem int_bl {b : Bool} : intD (.bl b) = some (if b then 1 else 0) := rfl
theorem w_abs {r : Rf} : WO (gAbs [r] sl S) Q ↔ WO (vw sl S r) fun d => WN d fun i => Q (.int (if i < 0 then -i else i)) := by
  unfold gAbs
  dsimp only
  rcases vw sl S r with _ | d
  · exact ⟨fun q => (w_none.mp q).elim, fun q => (w_none.mp q).elim⟩
  rw [w_some]
  cases d with
  | int z => exact w_some
  | _ => exact ⟨fun q => (w_none.mp q).elim, fun q => q.elim⟩
theorem w_max2 {r q : Rf} : WO (gMax2 [r, q] sl S) Q ↔ WO (vw sl S r) fun d => WO (vw sl S q) fun e => WN d fun i => WN e fun j => Q (.int (if j > i then j else i)) := by
  unfold gMax2
  dsimp only
  rcases vw sl S r with _ | d
  · exact ⟨fun q => (w_none.mp q).elim, fun q => (w_none.mp q).elim⟩
  rw [w_some]
  rcases vw sl S q with _ | e
  · cases d <;> exact ⟨fun q => (w_none.mp q).elim, fun q => (w_none.mp q).elim⟩
  rw [w_some]
  cases d with
  | int i =>
    cases e with
    | int j => exact w_some
    | _ => exact ⟨fun q => (w_none.mp q).elim, fun q => q.elim⟩
  | _ => cases e <;> exact ⟨fun q => (w_none.mp q).elim, fun q => q.elim⟩
theorem w_min2 {r q : Rf} : WO (gMin2 [r, q] sl S) Q ↔ WO (vw sl S r) fun d => WO (vw sl S q) fun e => WN d fun i => WN e fun j => Q (.int (if j < i then j else i)) := by
  unfold gMin2
  dsimp only
  rcases vw sl S r with _ | d
  · exact ⟨fun q => (w_none.mp q).elim, fun q => (w_none.mp q).elim⟩
  rw [w_some]
  rcases vw sl S q with _ | e
  · cases d <;> exact ⟨fun q => (w_none.mp q).elim, fun q => (w_none.mp q).elim⟩
  rw [w_some]
  cases d with
  | int i =>
    cases e with
    | int j => exact w_some
    | _ => exact ⟨fun q => (w_none.mp q).elim, fun q => q.elim⟩
  | _ => cases e <;> exact ⟨fun q => (w_none.mp q).elim, fun q => q.elim⟩
/-- the items of a list -/
def lsD : D → Option (List D)
  | .lst ds => some ds
  | _ => none
theorem ls_lst {ds : List D} : lsD (.lst ds) = some ds := rfl
theorem lsV_eq {r : Rf} : lsV sl S r = (vw sl S r).bind lsD := by
  unfold lsV
  rcases vw sl S r with _ | d
  · rfl
  · cases d <;> rfl
theorem w_sum {r : Rf} : WO (gSum [r] sl S) Q ↔ WO (vw sl S r) fun d => WO (lsD d) fun ds => WO (intsOf ds) fun ns => Q (.int ns.sum) := by
  unfold gSum
  dsimp only
  rw [lsV_eq]
  rcases vw sl S r with _ | d
  · exact ⟨fun q => (w_none.mp q).elim, fun q => (w_none.mp q).elim⟩
  rw [w_some, Option.bind_some]
  rcases lsD d with _ | ds
  · exact ⟨fun q => (w_none.mp q).elim, fun q => (w_none.mp q).elim⟩
  rw [w_some, Option.bind_some]
  rcases intsOf ds with _ | ns
  · exact ⟨fun q => (w_none.mp q).elim, fun q => (w_none.mp q).elim⟩
  simp only [w_some, if_true, Bool.false_eq_true, if_false]
theorem w_all {r : Rf} : WO (gAll false [r] sl S) Q ↔ WO (vw sl S r) fun d => WO (lsD d) fun ds => WO (blsOf ds) fun ns => Q (.bl (ns.all id)) := by
  unfold gAll
  dsimp only
  rw [lsV_eq]
  rcases vw sl S r with _ | d
  · exact ⟨fun q => (w_none.mp q).elim, fun q => (w_none.mp q).elim⟩
  rw [w_some, Option.bind_some]
  rcases lsD d with _ | ds
  · exact ⟨fun q => (w_none.mp q).elim, fun q => (w_none.mp q).elim⟩
  rw [w_some, Option.bind_some]
  rcases blsOf ds with _ | ns
  · exact ⟨fun q => (w_none.mp q).elim, fun q => (w_none.mp q).elim⟩
  simp only [w_some, if_true, Bool.false_eq_true, if_false]
theorem w_any {r : Rf} : WO (gAll true [r] sl S) Q ↔ WO (vw sl S r) fun d => WO (lsD d) fun ds => WO (blsOf ds) fun ns => Q (.bl (ns.any id)) := by
  unfold gAll
  dsimp only
  rw [lsV_eq]
  rcases vw sl S r with _ | d
  · exact ⟨fun q => (w_none.mp q).elim, fun q => (w_none.mp q).elim⟩
  rw [w_some, Option.bind_some]
  rcases lsD d with _ | ds
  · exact ⟨fun q => (w_none.mp q).elim, fun q => (w_none.mp q).elim⟩
  rw [w_some, Option.bind_some]
  rcases blsOf ds with _ | ns
  · exact ⟨fun q => (w_none.mp q).elim, fun q => (w_none.mp q).elim⟩
  simp only [w_some, if_true, Bool.false_eq_true, if_false]
theorem w_repr {r : Rf} : WO (gReprB [r] sl S) Q ↔ WO (vw sl S r) fun d => WB d fun b => Q (.str (if b then "True" else "False")) := by
  unfold gReprB
  dsimp only
  rcases vw sl S r with _ | d
  · exact ⟨fun q => (w_none.mp q).elim, fun q => (w_none.mp q).elim⟩
  rw [w_some]
  cases d with
  | bl z => exact w_some
  | _ => exact ⟨fun q => (w_none.mp q).elim, fun q => q.elim⟩
theorem w_list {r : Rf} {QO : Ob → Prop} : WO (gList [r] sl S) QO ↔ WO (vw sl S r) fun d => WL d fun ds => QO (.lst ds) := by
  unfold gList
  dsimp only
  rcases vw sl S r with _ | d
  · exact ⟨fun q => (w_none.mp q).elim, fun q => (w_none.mp q).elim⟩
  rw [w_some]
  cases d with
  | lst z => exact w_some
  | tup z => exact w_some
  | _ => exact ⟨fun q => (w_none.mp q).elim, fun q => q.elim⟩
theorem w_tuple {r : Rf} : WO (gTuple [r] sl S) Q ↔ WO (vw sl S r) fun d => WL d fun ds => Q (.tup ds) := by
  unfold gTuple
  dsimp only
  rcases vw sl S r with _ | d
  · exact ⟨fun q => (w_none.mp q).elim, fun q => (w_none.mp q).elim⟩
  rw [w_some]
  cases d with
  | lst z => exact w_some
  | tup z => exact w_some
  | _ => exact ⟨fun q => (w_none.mp q).elim, fun q => q.elim⟩
/-- what sorted, max, min take -/
def mmOk (ds : List D) : Prop := alk ds = true ∧ noN ds = true ∧ PyData.depthAll (pys ds) ≤ 60
def mmD (m : PyData → List PyData → PyData) : List D → D
  | [] => .non
  | d :: ds => yp (m (py d) (pys ds))
theorem w_mm {m : PyData → List PyData → PyData} {r : Rf} : WO (gMM m [r] sl S) Q ↔ WO (vw sl S r) fun d => WO (lsD d) fun ds => ds ≠ [] ∧ mmOk ds ∧ Q (mmD m ds) := by
  unfold gMM
  dsimp only
  rw [lsV_eq]
  rcases vw sl S r with _ | d
  · exact ⟨fun q => (w_none.mp q).elim, fun q => (w_none.mp q).elim⟩
  rw [w_some, Option.bind_some]
  rcases lsD d with _ | ds
  · exact ⟨fun q => (w_none.mp q).elim, fun q => (w_none.mp q).elim⟩
  rw [w_some]
  cases ds with
  | nil => exact ⟨fun q => (w_none.mp q).elim, fun q => absurd rfl q.1⟩
  | cons d ds =>
    dsimp only
    rw [w_ite, w_some]
    exact ⟨fun q => ⟨by simp, q.1, q.2⟩, fun q => q.2⟩
def srOk (ds : List D) : Prop := ds.length ≤ sizeLine ∧ alk ds = true ∧ srtOk (pys ds) = true ∧ PyData.depthAll (pys ds) ≤ 60
/-- what sorted walks -/
def itdD : D → Option (List D)
  | .lst ds => some ds
  | .dct _ kvs => some (kvs.map (·.1))
  | _ => none
theorem itd_lst {ds : List D} : itdD (.lst ds) = some ds := rfl
theorem itd_dct {t : Bool} {kvs : List (D × D)} : itdD (.dct t kvs) = some (kvs.map (·.1)) := rfl
theorem w_srt {r : Rf} {QO : Ob → Prop} : WO (gSrt [r] sl S) QO ↔ WO (vw sl S r) fun d => WO (itdD d) fun ds => srOk ds ∧ QO (.lst (dSrt ds)) := by
  unfold gSrt
  dsimp only [itD]
  rcases vw sl S r with _ | d
  · exact ⟨fun q => (w_none.mp q).elim, fun q => (w_none.mp q).elim⟩
  rw [w_some]
  cases d with
  | lst ds => dsimp only [itdD]; rw [w_some, w_ite, w_some]; exact .rfl
  | dct t kvs => dsimp only [itdD]; rw [w_some, w_ite, w_some]; exact .rfl
  | _ => exact ⟨fun q => (w_none.mp q).elim, fun q => (w_none.mp q).elim⟩
end
end PS

namespace PS
open PySem L2
section
variable {α β : Type} {sl : Sl} {S : Sto} {x : Option SV} {Q : D → Prop} {Q3 : D → Sl → Sto → Prop} {QG : Sl → Sto → Prop} {QF : Fl → Sl → Sto → Prop} {QO : Ob → Sl → Sto → Prop}
/-! methods -/
theorem kL_lst {ds : List D} : kL (.lst ds) = true := rfl
theorem kL_tup {ds : List D} : kL (.tup ds) = false := rfl
theorem kT_tup {ds : List D} : kT (.tup ds) = true := rfl
theorem kD_dct {t : Bool} {kvs : List (D × D)} : kD (.dct t kvs) = true := rfl
/-- a list that may be written -/
def WOl (o : Option (Cell × Ob)) (Q : Cell → List D → Prop) : Prop := WO o fun p => match p.2 with
  | .lst es => Q p.1 es
  | _ => False
def WOd (o : Option (Cell × Ob)) (Q : Cell → Bool → List (D × D) → Prop) : Prop := WO o fun p => match p.2 with
  | .dct t kvs => Q p.1 t kvs
  | _ => False
theorem wol_some {c : Cell} {es : List D} {Q : Cell → List D → Prop} : WOl (some (c, .lst es)) Q ↔ Q c es := w_some
theorem wod_some {c : Cell} {t : Bool} {kvs : List (D × D)} {Q : Cell → Bool → List (D × D) → Prop} : WOd (some (c, .dct t kvs)) Q ↔ Q c t kvs := w_some
theorem w_append {r : Rf} {d : D} : W3 (fAppend r [d] sl S) Q3 ↔ WOl (obR sl S r) fun c es => es.length < sizeLine ∧ Q3 .non (setC sl S c (.lst (es ++ [d]))).1 (setC sl S c (.lst (es ++ [d]))).2 := by
  unfold fAppend WOl
  rcases obR sl S r with _ | ⟨c, ob⟩
  · exact ⟨fun q => (w3_none.mp q).elim, fun q => (w_none.mp q).elim⟩
  rw [w_some]
  cases ob with
  | lst es => simp only [w3_ite, w3_some]
  | _ => exact ⟨fun q => (w3_none.mp q).elim, fun q => q.elim⟩
theorem w_extend {r : Rf} {zs : List D} : W3 (fExtend r [.lst zs] sl S) Q3 ↔ WOl (obR sl S r) fun c es => es.length + zs.length ≤ sizeLine ∧ Q3 .non (setC sl S c (.lst (es ++ zs))).1 (setC sl S c (.lst (es ++ zs))).2 := by
  unfold fExtend WOl
  rcases obR sl S r with _ | ⟨c, ob⟩
  · exact ⟨fun q => (w3_none.mp q).elim, fun q => (w_none.mp q).elim⟩
  rw [w_some]
  cases ob with
  | lst es => simp only [w3_ite, w3_some]
  | _ => exact ⟨fun q => (w3_none.mp q).elim, fun q => q.elim⟩
theorem w_pop {r : Rf} : W3 (fPop r [] sl S) Q3 ↔ WOl (obR sl S r) fun c es => WO es.getLast? fun d => Q3 d (setC sl S c (.lst es.dropLast)).1 (setC sl S c (.lst es.dropLast)).2 := by
  unfold fPop WOl
  rcases obR sl S r with _ | ⟨c, ob⟩
  · exact ⟨fun q => (w3_none.mp q).elim, fun q => (w_none.mp q).elim⟩
  rw [w_some]
  cases ob with
  | lst es =>
    dsimp only
    rw [List.getLast?_eq_getElem?]
    rcases es[es.length - 1]? with _ | d
    · exact ⟨fun q => (w3_none.mp q).elim, fun q => (w_none.mp q).elim⟩
    · rw [w_some]; exact w3_some
  | _ => exact ⟨fun q => (w3_none.mp q).elim, fun q => q.elim⟩
theorem w_popAt {r : Rf} {i : Int} : W3 (fPopAt r [.int i] sl S) Q3 ↔ WOl (obR sl S r) fun c es => WO (ixN es.length i) fun j => WO es[j]? fun d => bd i = true ∧ Q3 d (setC sl S c (.lst (es.eraseIdx j))).1 (setC sl S c (.lst (es.eraseIdx j))).2 := by
  unfold fPopAt WOl
  rcases obR sl S r with _ | ⟨c, ob⟩
  · exact ⟨fun q => (w3_none.mp q).elim, fun q => (w_none.mp q).elim⟩
  rw [w_some]
  cases ob with
  | lst es =>
    dsimp only
    rcases ixN es.length i with _ | j
    · exact ⟨fun q => (w3_none.mp q).elim, fun q => (w_none.mp q).elim⟩
    rw [w_some]
    dsimp only
    rcases es[j]? with _ | d
    · exact ⟨fun q => (w3_none.mp q).elim, fun q => (w_none.mp q).elim⟩
    · simp only [w_some, w3_ite, w3_some]
  | _ => exact ⟨fun q => (w3_none.mp q).elim, fun q => q.elim⟩
theorem w_insert {r : Rf} {i : Int} {d : D} : W3 (fInsert r [.int i, d] sl S) Q3 ↔ WOl (obR sl S r) fun c es => (es.length < sizeLine ∧ 0 ≤ i ∧ i < 2 ^ 62) ∧ Q3 .non (setC sl S c (.lst (es.take i.toNat ++ [d] ++ es.drop i.toNat))).1 (setC sl S c (.lst (es.take i.toNat ++ [d] ++ es.drop i.toNat))).2 := by
  unfold fInsert WOl
  rcases obR sl S r with _ | ⟨c, ob⟩
  · exact ⟨fun q => (w3_none.mp q).elim, fun q => (w_none.mp q).elim⟩
  rw [w_some]
  cases ob with
  | lst es => simp only [w3_ite, w3_some]
  | _ => exact ⟨fun q => (w3_none.mp q).elim, fun q => q.elim⟩
/-- the pairs of a dict -/
def WDv (d : D) (Q : Bool → List (D × D) → Prop) : Prop := match d with
  | .dct t kvs => Q t kvs
  | _ => False
theorem wdv_dct {t : Bool} {kvs : List (D × D)} {Q : Bool → List (D × D) → Prop} : WDv (.dct t kvs) Q ↔ Q t kvs := .rfl
theorem w_get2 {r : Rf} {k z : D} : W3 (fGet2 r [k, z] sl S) Q3 ↔ WO (vw sl S r) fun d => WDv d fun t kvs => okKey t k = true ∧ Q3 ((dlk kvs k).getD z) sl S := by
  unfold fGet2
  rcases vw sl S r with _ | d
  · exact ⟨fun q => (w3_none.mp q).elim, fun q => (w_none.mp q).elim⟩
  rw [w_some]
  cases d with
  | dct t kvs => simp only [w3_ite, w3_some, wdv_dct]
  | _ => exact ⟨fun q => (w3_none.mp q).elim, fun q => q.elim⟩
theorem w_setdef {r : Rf} {k z : D} : W3 (fSetdef r [k, z] sl S) Q3 ↔ WOd (obR sl S r) fun c t kvs => (okKey t k = true ∧ kvs.length < sizeLine) ∧ (match dlk kvs k with
    | some d => Q3 d sl S
    | none => Q3 z (setC sl S c (.dct t (dput kvs k z))).1 (setC sl S c (.dct t (dput kvs k z))).2) := by
  unfold fSetdef WOd
  rcases obR sl S r with _ | ⟨c, ob⟩
  · exact ⟨fun q => (w3_none.mp q).elim, fun q => (w_none.mp q).elim⟩
  rw [w_some]
  cases ob with
  | dct t kvs =>
    simp only [w3_ite]
    rcases dlk kvs k with _ | d <;> simp only [w3_some]
  | _ => exact ⟨fun q => (w3_none.mp q).elim, fun q => q.elim⟩
/-- count and index of what stands in a list or tuple -/
def fnOk (es : List D) (d : D) : Prop := pls es = true ∧ pl d = true ∧ (py d).depth ≤ 60
theorem w_findL {g : List PyData → PyData → Option Int} {r : Rf} {d : D} : W3 (fSame false (fFind g) r [d] sl S) Q3 ↔ WO (vw sl S r) fun v => WO (lsD v) fun es => fnOk es d ∧ WO (g (pys es) (py d)) fun i => Q3 (.int i) sl S := by
  unfold fSame fFind itV
  rcases vw sl S r with _ | v
  · exact ⟨fun q => (w3_none.mp q).elim, fun q => (w_none.mp q).elim⟩
  rw [w_some]
  cases v with
  | lst es => simp only [ls_lst, w_some, if_true, w3_ite, w3_map, fnOk]
  | tup es => exact ⟨fun q => (w3_none.mp q).elim, fun q => (w_none.mp q).elim⟩
  | _ => exact ⟨fun q => (w3_none.mp q).elim, fun q => (w_none.mp q).elim⟩
def tpD : D → Option (List D)
  | .tup ds => some ds
  | _ => none
theorem tp_tup {ds : List D} : tpD (.tup ds) = some ds := rfl
theorem w_findT {g : List PyData → PyData → Option Int} {r : Rf} {d : D} : W3 (fSame true (fFind g) r [d] sl S) Q3 ↔ WO (vw sl S r) fun v => WO (tpD v) fun es => fnOk es d ∧ WO (g (pys es) (py d)) fun i => Q3 (.int i) sl S := by
  unfold fSame fFind itV
  rcases vw sl S r with _ | v
  · exact ⟨fun q => (w3_none.mp q).elim, fun q => (w_none.mp q).elim⟩
  rw [w_some]
  cases v with
  | tup es => simp only [tp_tup, w_some, if_true, w3_ite, w3_map, fnOk]
  | lst es => exact ⟨fun q => (w3_none.mp q).elim, fun q => (w_none.mp q).elim⟩
  | _ => exact ⟨fun q => (w3_none.mp q).elim, fun q => (w_none.mp q).elim⟩
theorem w_cnt {es : List D} {d : D} {Q : Int → Prop} : WO (iCnt (pys es) (py d)) Q ↔ Q ((es.countP fun z => deq z d : Nat) : Int) := by
  unfold iCnt
  rw [w_some]
  have : (pys es).countP (fun y => PyData.eqv y (py d)) = es.countP fun z => deq z d := by
    induction es with
    | nil => rfl
    | cons e es ih => rw [pys, List.countP_cons, List.countP_cons, ih]; rfl
  rw [this]

/-! stores -/
theorem w_gSb {mo : M Rf} {mi : M D} {d : D} : WG (gSb mo mi) d (x :: sl) S QG ↔ WM mo (x :: sl) S fun r sl1 S1 => WM mi sl1 S1 fun k sl2 S2 => WO (stO r k d sl2 S2) fun p => QG p.1 p.2 := by
  unfold WG gSb WM
  constructor
  · rintro ⟨s, T, e, q⟩
    rcases h1 : mo (x :: sl) S with _ | ⟨r, sl1, S1⟩
    · rw [h1] at e; cases e
    rw [h1] at e
    dsimp only at e
    rcases h2 : mi sl1 S1 with _ | ⟨k, sl2, S2⟩
    · rw [h2] at e; cases e
    rw [h2] at e
    exact ⟨r, sl1, S1, rfl, k, sl2, S2, h2, (s, T), e, q⟩
  · rintro ⟨r, sl1, S1, h1, k, sl2, S2, h2, p, e, q⟩
    exact ⟨p.1, p.2, by rw [h1]; dsimp only; rw [h2]; exact e, q⟩
theorem w_gFl {c f : Str} {mo : M Rf} {d : D} : WG (gFl c f mo) d (x :: sl) S QG ↔ WM mo (x :: sl) S fun r sl1 S1 => WO (stF c f d r sl1 S1) fun p => QG p.1 p.2 := by
  unfold WG gFl WM
  constructor
  · rintro ⟨s, T, e, q⟩
    rcases h1 : mo (x :: sl) S with _ | ⟨r, sl1, S1⟩
    · rw [h1] at e; cases e
    rw [h1] at e
    exact ⟨r, sl1, S1, rfl, (s, T), e, q⟩
  · rintro ⟨r, sl1, S1, h1, p, e, q⟩
    exact ⟨p.1, p.2, by rw [h1]; exact e, q⟩
theorem st_lst {r : Rf} {k v : D} {Q2 : Sl × Sto → Prop} {c : Cell} {ds : List D} (h : obR sl S r = some (c, .lst ds)) : WO (stO r k v sl S) Q2 ↔ WN k fun i => WO (ixN ds.length i) fun j => Q2 (setC sl S c (.lst (ds.set j v))) := by
  unfold stO
  rw [h]
  cases k with
  | int i => exact w_map
  | _ => exact ⟨fun q => (w_none.mp q).elim, fun q => q.elim⟩
/-- what a store at a place makes -/
def stW (sl : Sl) (S : Sto) (k v : D) (p : Cell × Ob) (Q2 : Sl × Sto → Prop) : Prop := match p.2 with
  | .lst ds => WN k fun i => WO (ixN ds.length i) fun j => Q2 (setC sl S p.1 (.lst (ds.set j v)))
  | .dct t kvs => (okKey t k = true ∧ kvs.length < sizeLine) ∧ Q2 (setC sl S p.1 (.dct t (dput kvs k v)))
  | _ => False
theorem stw_lst {k v : D} {c : Cell} {ds : List D} {Q2 : Sl × Sto → Prop} : stW sl S k v (c, .lst ds) Q2 ↔ WN k fun i => WO (ixN ds.length i) fun j => Q2 (setC sl S c (.lst (ds.set j v))) := .rfl
theorem stw_dct {k v : D} {c : Cell} {t : Bool} {kvs : List (D × D)} {Q2 : Sl × Sto → Prop} : stW sl S k v (c, .dct t kvs) Q2 ↔ (okKey t k = true ∧ kvs.length < sizeLine) ∧ Q2 (setC sl S c (.dct t (dput kvs k v))) := .rfl
theorem w_st {r : Rf} {k v : D} {Q2 : Sl × Sto → Prop} : WO (stO r k v sl S) Q2 ↔ WO (obR sl S r) fun p => stW sl S k v p Q2 := by
  unfold stO
  rcases obR sl S r with _ | ⟨c, ob⟩
  · exact ⟨fun q => (w_none.mp q).elim, fun q => (w_none.mp q).elim⟩
  rw [w_some]
  cases ob with
  | lst ds =>
    rw [stw_lst]
    cases k with
    | int i => exact w_map
    | _ => exact ⟨fun q => (w_none.mp q).elim, fun q => q.elim⟩
  | dct t kvs => rw [stw_dct]; simp only [w_ite, w_some]
  | _ => exact ⟨fun q => (w_none.mp q).elim, fun q => q.elim⟩
def stFW (c f : Str) (d : D) (sl : Sl) (S : Sto) (p : Cell × Ob) (Q2 : Sl × Sto → Prop) : Prop := match p.2 with
  | .ins c' fs => (c' = c ∧ fs.length < 1000) ∧ Q2 (setC sl S p.1 (.ins c (putFD f d fs)))
  | _ => False
theorem stfw_ins {c c' f : Str} {d : D} {fs : List (Str × D)} {cl : Cell} {Q2 : Sl × Sto → Prop} : stFW c f d sl S (cl, .ins c' fs) Q2 ↔ (c' = c ∧ fs.length < 1000) ∧ Q2 (setC sl S cl (.ins c (putFD f d fs))) := .rfl
theorem w_stF {c f : Str} {d : D} {r : Rf} {Q2 : Sl × Sto → Prop} : WO (stF c f d r sl S) Q2 ↔ WO (obR sl S r) fun p => stFW c f d sl S p Q2 := by
  unfold stF
  rcases obR sl S r with _ | ⟨cl, ob⟩
  · exact ⟨fun q => (w_none.mp q).elim, fun q => (w_none.mp q).elim⟩
  rw [w_some]
  cases ob with
  | ins c' fs => rw [stfw_ins]; simp only [w_ite, w_some]
  | _ => exact ⟨fun q => (w_none.mp q).elim, fun q => q.elim⟩

/-! loops -/
theorem w_for {m : M Its} {g : MG} {b : MS} : WM (sFor m g b) (x :: sl) S QF ↔ WM m (x :: sl) S fun its sl1 S1 => WFo its g b sl1 S1 QF := by
  have e : sFor m g b = mBind m fun its => forGo its.gd g b its.ds := by
    funext sl S; unfold sFor mBind; rcases m sl S with _ | ⟨_, _, _⟩ <;> rfl
  rw [e, WM_bind]
  exact WM.congr fun _ _ _ => .rfl
theorem w_lc {m : M Its} {g : MG} {t : M Bool} {e : M D} {vs : List Nat} : WM (nLc m g t e vs) (x :: sl) S QO ↔ WM m (x :: sl) S fun its sl1 S1 => WLc its g t e vs sl1 S1 QO := by
  have h : nLc m g t e vs = mBind m fun its sl1 S1 => match lcGo its.gd g t e vs its.ds [] (wipeS sl1 vs) S1 with
    | some (acc, sl2, S2) => some (.lst acc, restS sl1 sl2 vs, S2)
    | none => none := by
    funext sl S; unfold nLc mBind; rcases m sl S with _ | ⟨_, _, _⟩ <;> rfl
  rw [h, WM_bind]
  refine WM.congr fun its sl1 S1 => ?_
  rw [WM_fun]
  unfold WLc
  rcases lcGo its.gd g t e vs its.ds [] (wipeS sl1 vs) S1 with _ | ⟨acc, s2, S2⟩
  · exact ⟨fun ⟨_, _, _, e, _⟩ => (by cases e), fun ⟨_, _, _, e, _⟩ => (by cases e)⟩
  · exact (WM_iff rfl).trans ⟨fun q => ⟨_, _, _, rfl, q⟩, fun ⟨_, _, _, e, q⟩ => by cases e; exact q⟩
theorem wfo_go {g : MG} {b : MS} {ds : List D} {gd : Option (Nat × Ob)} (hg : gdOk gd S) {d : D} (h : WG g d sl S fun sl1 S1 => WM b sl1 S1 fun fl sl2 S2 => WLp fl (WFo ⟨ds, gd⟩ g b sl2 S2 QF) (QF .nx sl2 S2) (fun d => QF (.rt d) sl2 S2)) : WFo ⟨d :: ds, gd⟩ g b sl S QF := by
  obtain ⟨sl1, S1, e1, fl, sl2, S2, e2, q⟩ := h
  unfold WFo
  simp only [forGo]
  rw [if_pos hg, e1]
  dsimp only
  rw [e2]
  cases fl with
  | nx => exact q
  | ct => exact q
  | bk => exact ⟨_, _, _, rfl, q⟩
  | rt d => exact ⟨_, _, _, rfl, q⟩
theorem wfo_nil {g : MG} {b : MS} {gd : Option (Nat × Ob)} (hg : gdOk gd S) (h : QF .nx sl S) : WFo ⟨[], gd⟩ g b sl S QF := ⟨.nx, sl, S, by simp only [forGo]; rw [if_pos hg], h⟩
/-- a loop by an invariant of what was walked -/
theorem wfo_gen {gd : Option (Nat × Ob)} {inj : α → D} {l0 : List α} {g : MG} {b : MS} (I : List α → Sl → Sto → Prop) (hg : ∀ pre sl S, I pre sl S → gdOk gd S)
    (step : ∀ pre a post sl S, l0 = pre ++ a :: post → I pre sl S → WG g (inj a) sl S fun sl1 S1 => WM b sl1 S1 fun fl sl2 S2 => WLp fl (I (pre ++ [a]) sl2 S2) (QF .nx sl2 S2) (fun d => QF (.rt d) sl2 S2))
    (hn : ∀ sl S, I l0 sl S → QF .nx sl S) : ∀ (l pre : List α) (sl : Sl) (S : Sto), l0 = pre ++ l → I pre sl S → WFo ⟨l.map inj, gd⟩ g b sl S QF
  | [], pre, sl, S, e, h => by
    rw [List.append_nil] at e; subst e
    exact wfo_nil (hg _ _ _ h) (hn _ _ h)
  | a :: l, pre, sl, S, e, h => by
    refine wfo_go (hg _ _ _ h) ?_
    obtain ⟨sl1, S1, e1, fl, sl2, S2, e2, q⟩ := step pre a l sl S e h
    refine ⟨sl1, S1, e1, fl, sl2, S2, e2, ?_⟩
    cases fl with
    | nx => exact wfo_gen I hg step hn l (pre ++ [a]) sl2 S2 (by rw [List.append_assoc]; exact e) q
    | ct => exact wfo_gen I hg step hn l (pre ++ [a]) sl2 S2 (by rw [List.append_assoc]; exact e) q
    | bk => exact q
    | rt d => exact q
theorem wfo {inj : α → D} {l0 : List α} {ds : List D} {g : MG} {b : MS} (I : List α → Sl → Sto → Prop) (hd : ds = l0.map inj) (h0 : I [] sl S)
    (step : ∀ pre a post sl S, l0 = pre ++ a :: post → I pre sl S → WG g (inj a) sl S fun sl1 S1 => WM b sl1 S1 fun fl sl2 S2 => WLp fl (I (pre ++ [a]) sl2 S2) (QF .nx sl2 S2) (fun d => QF (.rt d) sl2 S2))
    (hn : ∀ sl S, I l0 sl S → QF .nx sl S) : WFo ⟨ds, none⟩ g b sl S QF := by
  rw [hd]
  exact wfo_gen (gd := none) I (fun _ _ _ _ => trivial) step hn l0 [] sl S rfl h0
/-- over a list of the store that no turn changes -/
theorem wfoS {n : Nat} {ob : Ob} {inj : α → D} {l0 : List α} {ds : List D} {g : MG} {b : MS} (I : List α → Sl → Sto → Prop) (hd : ds = l0.map inj) (hg : ∀ pre sl S, I pre sl S → S[n]? = some ob) (h0 : I [] sl S)
    (step : ∀ pre a post sl S, l0 = pre ++ a :: post → I pre sl S → WG g (inj a) sl S fun sl1 S1 => WM b sl1 S1 fun fl sl2 S2 => WLp fl (I (pre ++ [a]) sl2 S2) (QF .nx sl2 S2) (fun d => QF (.rt d) sl2 S2))
    (hn : ∀ sl S, I l0 sl S → QF .nx sl S) : WFo ⟨ds, some (n, ob)⟩ g b sl S QF := by
  rw [hd]
  exact wfo_gen (gd := some (n, ob)) I hg step hn l0 [] sl S rfl h0
/-- a comprehension by an invariant -/
theorem wlc_gen {inj : α → D} {l0 : List α} {g : MG} {t : M Bool} {e : M D} {vs : List Nat} {sl0 : Sl} {R : List D → Sto → Prop} (I : List α → List D → Sto → Prop)
    (step : ∀ pre a post acc S, l0 = pre ++ a :: post → I pre acc S → WG g (inj a) sl0 S fun sl1 S1 => WM t sl1 S1 fun c sl2 S2 => WI c (WM e sl2 S2 fun y sl3 S3 => wipeS sl3 vs = sl0 ∧ acc.length < sizeLine ∧ I (pre ++ [a]) (acc ++ [y]) S3) (wipeS sl2 vs = sl0 ∧ I (pre ++ [a]) acc S2))
    (hn : ∀ acc S, I l0 acc S → R acc S) : ∀ (l pre : List α) (acc : List D) (S : Sto), l0 = pre ++ l → I pre acc S → ∃ acc' S', lcGo none g t e vs (l.map inj) acc sl0 S = some (acc', sl0, S') ∧ R acc' S'
  | [], pre, acc, S, h, i => by
    rw [List.append_nil] at h; subst h
    exact ⟨acc, S, by simp [lcGo, gdOk], hn _ _ i⟩
  | a :: l, pre, acc, S, h, i => by
    obtain ⟨sl1, S1, e1, c, sl2, S2, e2, q⟩ := step pre a l acc S h i
    simp only [List.map_cons, lcGo, gdOk, if_true, e1, e2]
    cases c with
    | true =>
      obtain ⟨y, sl3, S3, e3, w, hl, i2⟩ := q
      simp only [e3, w]
      rw [if_pos hl]
      exact wlc_gen I step hn l (pre ++ [a]) (acc ++ [y]) S3 (by rw [List.append_assoc]; exact h) i2
    | false =>
      obtain ⟨w, i2⟩ := q
      simp only [w]
      exact wlc_gen I step hn l (pre ++ [a]) acc S2 (by rw [List.append_assoc]; exact h) i2
/-! what a comprehension leaves -/
def rsv : Option SV → Option SV
  | some (.val d) => some (.val d)
  | _ => none
theorem rsv_v {d : D} : rsv (some (.val d)) = some (.val d) := rfl
theorem rsv_n : rsv none = none := rfl
theorem rsv_r {y : Option SV} : rsv (rsv y) = rsv y := by rcases y with _ | _ | _ <;> rfl
def rsO : Option (Option SV) → Option SV
  | some y => rsv y
  | none => none
theorem rsO_s {y : Option SV} : rsO (some y) = rsv y := rfl
def rstS (sl : Sl) : List Nat → Sl
  | [] => sl
  | v :: vs => (rstS sl vs).set v (rsO (sl[v]?))
theorem rst_len (sl : Sl) : ∀ vs, (rstS sl vs).length = sl.length
  | [] => rfl
  | v :: vs => by rw [rstS, List.length_set, rst_len sl vs]
theorem wipe_len (sl : Sl) : ∀ vs, (wipeS sl vs).length = sl.length
  | [] => rfl
  | v :: vs => by rw [wipeS, List.length_set, wipe_len sl vs]
theorem rst_at (sl : Sl) (i : Nat) : ∀ vs, (rstS sl vs)[i]? = if i ∈ vs then (if i < sl.length then some (rsO (sl[i]?)) else none) else sl[i]?
  | [] => by simp [rstS]
  | v :: vs => by
    rw [rstS, List.getElem?_set, rst_len, rst_at sl i vs]
    by_cases h : v = i
    · subst h; simp
    · have : ¬ i = v := fun e => h e.symm
      simp [h, this]
theorem wipe_at (sl : Sl) (i : Nat) : ∀ vs, (wipeS sl vs)[i]? = if i ∈ vs then (if i < sl.length then some none else none) else sl[i]?
  | [] => by simp [wipeS]
  | v :: vs => by
    rw [wipeS, List.getElem?_set, wipe_len, wipe_at sl i vs]
    by_cases h : v = i
    · subst h; simp
    · have : ¬ i = v := fun e => h e.symm
      simp [h, this]
theorem restS_len (sl0 s : Sl) : ∀ vs, (restS sl0 s vs).length = s.length
  | [] => rfl
  | v :: vs => by
    rw [restS]
    split
    · rw [List.length_set, restS_len sl0 s vs]
    · exact restS_len sl0 s vs
theorem rest_at (sl0 s : Sl) (hl : s.length = sl0.length) (i : Nat) : ∀ vs, (restS sl0 s vs)[i]? = if i ∈ vs then (match sl0[i]? with | some (some (.val d)) => some (some (.val d)) | _ => s[i]?) else s[i]?
  | [] => by simp [restS]
  | v :: vs => by
    have ih := rest_at sl0 s hl i vs
    rw [restS]
    by_cases h : v = i
    · subst h
      rw [if_pos (List.mem_cons_self ..)]
      rcases e : sl0[v]? with _ | _ | d | ob
      · simp only [e, ite_self] at ih ⊢
        exact ih
      · simp only [e, ite_self] at ih ⊢
        exact ih
      · have : v < s.length := by rw [hl]; exact (List.getElem?_eq_some_iff.mp e).1
        show ((restS sl0 s vs).set v (some (.val d)))[v]? = some (some (.val d))
        rw [List.getElem?_set, restS_len, if_pos rfl, if_pos this]
      · simp only [e, ite_self] at ih ⊢
        exact ih
    · have h2 : ¬ i = v := fun e => h e.symm
      have : (i ∈ v :: vs) = (i ∈ vs) := by simp [h2]
      simp only [this]
      rw [← ih]
      rcases e : sl0[v]? with _ | _ | d | ob
      · rfl
      · rfl
      · show ((restS sl0 s vs).set v (some (.val d)))[i]? = _
        rw [List.getElem?_set, if_neg h]
      · rfl
theorem rest_wipe (sl : Sl) (vs : List Nat) : restS sl (wipeS sl vs) vs = rstS sl vs := by
  refine List.ext_getElem? fun i => ?_
  rw [rest_at sl _ (wipe_len sl vs), rst_at]
  by_cases h : i ∈ vs
  · rw [if_pos h, if_pos h, wipe_at, if_pos h]
    by_cases hl : i < sl.length
    · rw [List.getElem?_eq_getElem hl, if_pos hl]
      rcases sl[i] with _ | _ | _
      · simp [rsO, rsv, hl]
      · simp [rsO, rsv, hl]
      · simp [rsO, rsv, hl]
    · rw [if_neg hl, List.getElem?_eq_none (by omega)]
      simp; omega
  · rw [if_neg h, if_neg h, wipe_at, if_neg h]
theorem wlcI {inj : α → D} {l0 : List α} {ds : List D} {g : MG} {t : M Bool} {e : M D} {vs : List Nat} (I : List α → List D → Sto → Prop) (hd : ds = l0.map inj) (h0 : I [] [] S)
    (step : ∀ pre a post acc S, l0 = pre ++ a :: post → I pre acc S → WG g (inj a) (wipeS sl vs) S fun sl1 S1 => WM t sl1 S1 fun c sl2 S2 => WI c (WM e sl2 S2 fun y sl3 S3 => wipeS sl3 vs = wipeS sl vs ∧ acc.length < sizeLine ∧ I (pre ++ [a]) (acc ++ [y]) S3) (wipeS sl2 vs = wipeS sl vs ∧ I (pre ++ [a]) acc S2))
    (hn : ∀ acc S, I l0 acc S → QO (.lst acc) (rstS sl vs) S) : WLc ⟨ds, none⟩ g t e vs sl S QO := by
  rw [hd]
  obtain ⟨acc, S', h, q⟩ := wlc_gen I step hn l0 [] [] S rfl h0
  exact ⟨acc, _, S', h, by rw [rest_wipe]; exact q⟩
theorem filter_snoc {p : α → Bool} {pre : List α} {a : α} : (pre ++ [a]).filter p = pre.filter p ++ (if p a = true then [a] else []) := by
  rw [List.filter_append]
  congr 1
  by_cases h : p a = true
  · rw [if_pos h, List.filter_cons_of_pos h]; rfl
  · rw [if_neg h, List.filter_cons_of_neg h]; rfl
/-- a comprehension that changes nothing -/
theorem wlc {inj : α → D} {ds : List D} {g : MG} {t : M Bool} {e : M D} {vs : List Nat} (l0 : List α) (p : α → Bool) (h : α → D) (hd : ds = l0.map inj) (hl : l0.length ≤ sizeLine)
    (step : ∀ a, a ∈ l0 → WG g (inj a) (wipeS sl vs) S fun sl1 S1 => WM t sl1 S1 fun c sl2 S2 => c = p a ∧ WI (p a) (WM e sl2 S2 fun y sl3 S3 => y = h a ∧ S3 = S ∧ wipeS sl3 vs = wipeS sl vs) (S2 = S ∧ wipeS sl2 vs = wipeS sl vs))
    (hn : QO (.lst ((l0.filter p).map h)) (rstS sl vs) S) : WLc ⟨ds, none⟩ g t e vs sl S QO := by
  refine wlcI (l0 := l0) (inj := inj) (fun pre acc S' => acc = (pre.filter p).map h ∧ S' = S ∧ acc.length ≤ pre.length) hd ⟨rfl, rfl, Nat.le_refl _⟩ ?_ ?_
  · rintro pre a post acc S' eq ⟨rfl, rfl, hl2⟩
    have hm : a ∈ l0 := by rw [eq]; simp
    have hlen : pre.length < l0.length := by rw [eq]; simp
    obtain ⟨sl1, S1, e1, c, sl2, S2, e2, hc, q⟩ := step a hm
    subst hc
    refine ⟨sl1, S1, e1, p a, sl2, S2, e2, ?_⟩
    cases hp : p a with
    | true =>
      rw [hp] at q
      obtain ⟨y, sl3, S3, e3, rfl, rfl, w⟩ := q
      refine ⟨h a, sl3, S3, e3, w, by omega, ?_, rfl, by simp at hl2 ⊢; omega⟩
      rw [filter_snoc, if_pos hp, List.map_append]; rfl
    | false =>
      rw [hp] at q
      obtain ⟨rfl, w⟩ := q
      refine ⟨w, ?_, rfl, by simp at hl2 ⊢; omega⟩
      rw [filter_snoc, if_neg (by rw [hp]; decide), List.append_nil]
  · rintro acc S' ⟨rfl, rfl, _⟩
    exact hn
/-- a while loop: each turn brings the measure down -/
theorem w_wh {t : M Bool} {b : MS} (I : Nat → Sl → Sto → Prop)
    (step : ∀ n sl S, I n sl S → WM t sl S fun c sl1 S1 => WI c (WM b sl1 S1 fun fl sl2 S2 => WLp fl (∃ m, m < n ∧ I m sl2 S2) (QF .nx sl2 S2) (fun d => QF (.rt d) sl2 S2)) (QF .nx sl1 S1)) {n : Nat} (h : I n sl S) : WM (sWh t b) sl S QF := by
  have key : ∀ n, ∀ sl S, I n sl S → ∃ k fl sl' S', whN t b k sl S = some (fl, sl', S') ∧ QF fl sl' S' := by
    intro n
    induction n using Nat.strongRecOn with
    | _ n ih =>
      intro sl S h
      obtain ⟨c, sl1, S1, e1, q⟩ := step n sl S h
      cases c with
      | false => exact ⟨1, .nx, sl1, S1, by simp only [whN, e1], q⟩
      | true =>
        obtain ⟨fl, sl2, S2, e2, q⟩ := q
        cases fl with
        | nx =>
          obtain ⟨m, hm, i⟩ := q
          obtain ⟨k, fl, s', S', e3, q⟩ := ih m hm _ _ i
          exact ⟨k + 1, fl, s', S', by simp only [whN, e1, e2]; exact e3, q⟩
        | ct =>
          obtain ⟨m, hm, i⟩ := q
          obtain ⟨k, fl, s', S', e3, q⟩ := ih m hm _ _ i
          exact ⟨k + 1, fl, s', S', by simp only [whN, e1, e2]; exact e3, q⟩
        | bk => exact ⟨1, .nx, sl2, S2, by simp only [whN, e1, e2], q⟩
        | rt d => exact ⟨1, .rt d, sl2, S2, by simp only [whN, e1, e2], q⟩
  obtain ⟨k, fl, s', S', e, q⟩ := key n sl S h
  exact ⟨fl, s', S', sWh_of e, q⟩
/-! defs -/
theorem w_def {p n : Nat} {b : MS} {ds : List D} {Q : D × Sto → Prop} (sl0 : Sl) (hl : ds.length = p) (hs : ds.map (fun d => some (.val d)) ++ List.replicate (n - ds.length) none = sl0)
    (h : WM b sl0 S fun fl _ S' => S'.length = S.length ∧ WR fl fun d => Q (d, S')) : WO (relF (runB p n b) ds S) Q := by
  subst hs
  obtain ⟨fl, s', S', e, hS, q⟩ := h
  unfold relF runB
  rw [if_pos hl, e]
  cases fl with
  | nx => dsimp only; unfold rel; rw [if_pos hS]; exact w_some.mpr q
  | rt d => dsimp only; unfold rel; rw [if_pos hS]; exact w_some.mpr q
  | bk => exact q.elim
  | ct => exact q.elim
/-- without release -/
theorem w_defK {p n : Nat} {b : MS} {ds : List D} {Q : D × Sto → Prop} (sl0 : Sl) (hl : ds.length = p) (hs : ds.map (fun d => some (.val d)) ++ List.replicate (n - ds.length) none = sl0)
    (h : WM b sl0 S fun fl _ S' => WR fl fun d => Q (d, S')) : WO (runB p n b ds S) Q := by
  subst hs
  obtain ⟨fl, s', S', e, q⟩ := h
  unfold runB
  rw [if_pos hl, e]
  cases fl with
  | nx => exact w_some.mpr q
  | rt d => exact w_some.mpr q
  | bk => exact q.elim
  | ct => exact q.elim
/-- with release of what is new -/
theorem w_defR {p n : Nat} {b : MS} {ds : List D} {Q : D × Sto → Prop} (sl0 : Sl) (hl : ds.length = p) (hs : ds.map (fun d => some (.val d)) ++ List.replicate (n - ds.length) none = sl0)
    (h : WM b sl0 S fun fl _ S' => WR fl fun d => WO (rel S.length (d, S')) Q) : WO (relF (runB p n b) ds S) Q := by
  obtain ⟨p, e, q⟩ := w_defK (Q := fun p => WO (rel S.length p) Q) sl0 hl hs h
  unfold relF
  rw [e]
  exact q
theorem WO.eq {o : Option α} {a : α} (h : WO o fun b => b = a) : o = some a := let ⟨b, e, q⟩ := h; by rw [e, q]
theorem WO.of {o : Option α} {a : α} {Q : α → Prop} (e : o = some a) (q : Q a) : WO o Q := ⟨a, e, q⟩
end
end PS

namespace PS
open PySem L2
section
variable {α β : Type} {sl : Sl} {S : Sto} {x : Option SV}
theorem natLit (n : Nat) : ((no_index (OfNat.ofNat n) : Nat) : Int) = OfNat.ofNat n := rfl
theorem w_tYs {Q : Bool → Sl → Sto → Prop} : WM tYs (x :: sl) S Q ↔ Q true (x :: sl) S := WM_iff rfl
/-! ### plain data: what can be compared -/
/-- plain, and at most so deep -/
def Pd (k : Nat) (d : D) : Prop := pl d = true ∧ (py d).depth ≤ k
theorem Pd.mono {k j : Nat} {d : D} (h : Pd k d) (hk : k ≤ j) : Pd j d := ⟨h.1, Nat.le_trans h.2 hk⟩
theorem pd_int {k : Nat} {i : Int} : Pd k (.int i) := ⟨rfl, Nat.zero_le _⟩
theorem pd_str {k : Nat} {z : Str} : Pd k (.str z) := ⟨rfl, Nat.zero_le _⟩
theorem pd_bl {k : Nat} {b : Bool} : Pd k (.bl b) := ⟨rfl, Nat.zero_le _⟩
theorem pd_non {k : Nat} : Pd k .non := ⟨rfl, Nat.zero_le _⟩
/-- all of some -/
def Pds (k : Nat) (ds : List D) : Prop := pls ds = true ∧ PyData.depthAll (pys ds) ≤ k
theorem pds_nil {k : Nat} : Pds k [] := ⟨rfl, by simp [pys, PyData.depthAll]⟩
theorem pds_cons {k : Nat} {d : D} {ds : List D} (h : Pd k d) (h2 : Pds k ds) : Pds k (d :: ds) :=
  ⟨by rw [pls, h.1, h2.1]; rfl, by rw [pys, PyData.depthAll]; exact Nat.max_le.mpr ⟨h.2, h2.2⟩⟩
theorem pds_all {k : Nat} {ds : List D} (h : ∀ d ∈ ds, Pd k d) : Pds k ds := by
  induction ds with
  | nil => exact pds_nil
  | cons d ds ih => exact pds_cons (h d (List.mem_cons_self ..)) (ih fun e he => h e (List.mem_cons_of_mem _ he))
theorem pds_map {k : Nat} {f : α → D} {l : List α} (h : ∀ a ∈ l, Pd k (f a)) : Pds k (l.map f) := pds_all fun d hd => by
  obtain ⟨a, ha, rfl⟩ := List.mem_map.mp hd
  exact h a ha
theorem pds_app {k : Nat} {ds es : List D} (h : Pds k ds) (h2 : Pds k es) : Pds k (ds ++ es) := by
  induction ds with
  | nil => exact h2
  | cons d ds ih =>
    obtain ⟨p, q⟩ := h
    rw [pls, Bool.and_eq_true] at p
    rw [pys, PyData.depthAll] at q
    have q := Nat.max_le.mp q
    exact pds_cons ⟨p.1, q.1⟩ (ih ⟨p.2, q.2⟩)
theorem pd_tup {k : Nat} {ds : List D} (h : Pds k ds) : Pd (k + 1) (.tup ds) := ⟨h.1, by rw [py, PyData.depth]; have := h.2; omega⟩
theorem pd_lst {k : Nat} {ds : List D} (h : Pds k ds) : Pd (k + 1) (.lst ds) := ⟨h.1, by rw [py, PyData.depth]; have := h.2; omega⟩
theorem eqOk_l {a b : D} (h : Pd 64 a) (h2 : pl b = true) : eqOk a b := ⟨h.1, h2, Nat.le_trans (Nat.min_le_left _ _) h.2⟩
theorem eqOk_r {a b : D} (h : Pd 64 b) (h2 : pl a = true) : eqOk a b := ⟨h2, h.1, Nat.le_trans (Nat.min_le_right _ _) h.2⟩
theorem inOk_of {d : D} {ds : List D} (h : Pd 60 d) (h2 : pls ds = true) : inOk d ds := ⟨h.1, h2, h.2⟩
theorem fnOk_of {d : D} {ds : List D} (h : Pd 60 d) (h2 : pls ds = true) : fnOk ds d := ⟨h2, h.1, h.2⟩
theorem eqk_int {i j : Int} : eqOk (.int i) (.int j) ↔ True := iff_true_intro (eqOk_l pd_int rfl)
theorem eqk_str {i j : Str} : eqOk (.str i) (.str j) ↔ True := iff_true_intro (eqOk_l pd_str rfl)
theorem eqk_bl {i j : Bool} : eqOk (.bl i) (.bl j) ↔ True := iff_true_intro (eqOk_l pd_bl rfl)
theorem eqk_nil {d : D} : eqOk d (.tup []) ↔ pl d = true := ⟨fun h => h.1, fun h => eqOk_r (pd_tup (k := 63) pds_nil) h⟩
theorem eqk_nilL {d : D} : eqOk d (.lst []) ↔ pl d = true := ⟨fun h => h.1, fun h => eqOk_r (pd_lst (k := 63) pds_nil) h⟩
theorem ink_int {i : Int} {ds : List D} : inOk (.int i) ds ↔ pls ds = true := ⟨fun h => h.2.1, fun h => inOk_of pd_int h⟩
theorem ink_str {i : Str} {ds : List D} : inOk (.str i) ds ↔ pls ds = true := ⟨fun h => h.2.1, fun h => inOk_of pd_str h⟩
theorem ink_bl {i : Bool} {ds : List D} : inOk (.bl i) ds ↔ pls ds = true := ⟨fun h => h.2.1, fun h => inOk_of pd_bl h⟩
theorem ink_non {ds : List D} : inOk .non ds ↔ pls ds = true := ⟨fun h => h.2.1, fun h => inOk_of pd_non h⟩
theorem fnk_int {i : Int} {ds : List D} : fnOk ds (.int i) ↔ pls ds = true := ⟨fun h => h.1, fun h => fnOk_of pd_int h⟩
theorem fnk_str {i : Str} {ds : List D} : fnOk ds (.str i) ↔ pls ds = true := ⟨fun h => h.1, fun h => fnOk_of pd_str h⟩
theorem pl_int {i : Int} : pl (.int i) = true := rfl
theorem pl_str {i : Str} : pl (.str i) = true := rfl
theorem pl_bl {i : Bool} : pl (.bl i) = true := rfl
theorem pl_non : pl .non = true := rfl
theorem pl_tup {ds : List D} : pl (.tup ds) = pls ds := rfl
theorem pl_lst {ds : List D} : pl (.lst ds) = pls ds := rfl
theorem pls_nil : pls [] = true := rfl
theorem pls_cons {d : D} {ds : List D} : pls (d :: ds) = (pl d && pls ds) := rfl
theorem pls_ap {ds es : List D} : pls (ds ++ es) = (pls ds && pls es) := by
  induction ds with
  | nil => simp [pls]
  | cons d ds ih => rw [List.cons_append, pls, pls, ih, Bool.and_assoc]
/-! equality -/
def deqs : List D → List D → Bool
  | [], [] => true
  | d :: ds, e :: es => deq d e && deqs ds es
  | _, _ => false
theorem eqvAll_pys : ∀ ds es : List D, PyData.eqvAll (pys ds) (pys es) = deqs ds es
  | [], [] => by simp [pys, PyData.eqvAll, deqs]
  | [], _ :: _ => by simp [pys, PyData.eqvAll, deqs]
  | _ :: _, [] => by simp [pys, PyData.eqvAll, deqs]
  | d :: ds, e :: es => by
    simp only [pys, PyData.eqvAll, deqs, eqvAll_pys ds es]
    rfl
theorem deq_tt {ds es : List D} : deq (.tup ds) (.tup es) = deqs ds es := by
  unfold deq; rw [py, py]; simp only [PyData.eqv]; exact eqvAll_pys ds es
theorem deq_ll {ds es : List D} : deq (.lst ds) (.lst es) = deqs ds es := by
  unfold deq; rw [py, py]; simp only [PyData.eqv]; exact eqvAll_pys ds es
theorem deqs_nn : deqs [] [] = true := rfl
theorem deqs_cc {d e : D} {ds es : List D} : deqs (d :: ds) (e :: es) = (deq d e && deqs ds es) := rfl
theorem deqs_nc {e : D} {es : List D} : deqs [] (e :: es) = false := rfl
theorem deqs_cn {e : D} {es : List D} : deqs (e :: es) [] = false := rfl
theorem deqs_map {f : α → D} [DecidableEq α] (h : ∀ a b, deq (f a) (f b) = decide (a = b)) : ∀ l m : List α, deqs (l.map f) (m.map f) = decide (l = m)
  | [], [] => rfl
  | [], _ :: _ => rfl
  | _ :: _, [] => rfl
  | a :: l, b :: m => by
    rw [List.map_cons, List.map_cons, deqs, h, deqs_map h l m]
    by_cases h1 : a = b <;> by_cases h2 : l = m <;> simp [h1, h2]
theorem isIn_map {f : α → D} [DecidableEq α] (h : ∀ a b, deq (f a) (f b) = decide (a = b)) (l : List α) (a : α) : isIn (f a) (l.map f) = decide (a ∈ l) := by
  unfold isIn
  induction l with
  | nil => rfl
  | cons b l ih =>
    rw [List.map_cons, List.any_cons, ih, h]
    by_cases h1 : b = a
    · subst h1; simp
    · have : ¬ a = b := fun e => h1 e.symm
      by_cases h2 : a ∈ l <;> simp [h1, h2, this]
theorem cnt_map {f : α → D} [DecidableEq α] (h : ∀ a b, deq (f a) (f b) = decide (a = b)) (l : List α) (a : α) : (l.map f).countP (fun z => deq z (f a)) = l.count a := by
  induction l with
  | nil => rfl
  | cons b l ih =>
    rw [List.map_cons, List.countP_cons, ih, List.count_cons, h]
    by_cases h1 : b = a <;> simp [h1]
theorem idB_map {f : α → D} [DecidableEq α] (h : ∀ a b, deq (f a) (f b) = decide (a = b)) (l : List α) (a : α) : idB (pys (l.map f)) (py (f a)) = if a ∈ l then some (l.idxOf a) else none := by
  unfold idB
  have e : (pys (l.map f)).map (fun y => PyData.eqv y (py (f a))) = l.map fun b => decide (b = a) := by
    induction l with
    | nil => rfl
    | cons b l ih => rw [List.map_cons, pys, List.map_cons, ih, List.map_cons]; congr 1; exact h b a
  rw [e]
  have m : (true ∈ l.map fun b => decide (b = a)) ↔ a ∈ l := by simp
  have i : (l.map fun b => decide (b = a)).idxOf true = l.idxOf a := by
    clear e m
    induction l with
    | nil => rfl
    | cons b l ih =>
      rw [List.map_cons, List.idxOf_cons, List.idxOf_cons, ih]
      by_cases h1 : b = a
      · simp [h1]
      · have : (b == a) = false := by simp [h1]
        simp [h1, this]
  by_cases hm : a ∈ l
  · rw [if_pos (m.mpr hm), if_pos hm, i]
  · rw [if_neg (fun q => hm (m.mp q)), if_neg hm]
theorem w_idx {f : α → D} [DecidableEq α] (h : ∀ a b, deq (f a) (f b) = decide (a = b)) {l : List α} {a : α} {Q : Int → Prop} : WO (iIdx (pys (l.map f)) (py (f a))) Q ↔ a ∈ l ∧ Q (l.idxOf a : Nat) := by
  unfold iIdx
  rw [idB_map h, w_map, w_ite, w_some]
theorem deq_bl (a b : Bool) : deq (.bl a) (.bl b) = decide (a = b) := by
  unfold deq py PyData.eqv
  cases a <;> cases b <;> rfl
theorem deq_strD (x y : Str) : deq (.str x) (.str y) = decide (x = y) := by
  rw [deq_str]
  by_cases h : x = y <;> simp [h]
theorem deq_nn : deq .non .non = true := by simp [deq, py, PyData.eqv]
theorem deq_nat (a b : Nat) : deq (.int a) (.int b) = decide (a = b) := by
  rw [deq_int]
  by_cases h : a = b
  · subst h; simp
  · have : ¬ (a : Int) = b := by omega
    simp [h, this]
/-! truth values, numbers -/
theorem bls_map {f : α → Bool} : ∀ l : List α, blsOf (l.map fun a => D.bl (f a)) = some (l.map f)
  | [] => rfl
  | a :: l => by rw [List.map_cons, blsOf, bls_map l]; rfl
theorem ints_map {f : α → Int} : ∀ l : List α, intsOf (l.map fun a => D.int (f a)) = some (l.map f)
  | [] => rfl
  | a :: l => by rw [List.map_cons, intsOf, ints_map l]; rfl
theorem bls_map1 {f : Bool → D} (l : List Bool) : blsOf (l.map D.bl) = some l := by
  have := bls_map (f := id) l
  simpa using this
theorem ints_map1 (l : List Int) : intsOf (l.map D.int) = some l := by
  have := ints_map (f := id) l
  simpa using this
theorem all_map {f : α → Bool} {l : List α} : (l.map f).all id = l.all f := by simp [List.all_map, Function.comp_def]
theorem any_map {f : α → Bool} {l : List α} : (l.map f).any id = l.any f := by simp [List.any_map, Function.comp_def]
/-! places -/
theorem ix_n {n i : Nat} (h : i < n) : ixN n (i : Int) = some i := by
  unfold ixN
  rw [if_pos (Int.natCast_nonneg i), if_pos (by omega)]; rfl
theorem ixn_i {n : Nat} {i : Int} (h : 0 ≤ i) (h2 : i < n) : ixN n i = some i.toNat := by
  unfold ixN
  rw [if_pos h, if_pos h2]
theorem at_map {f : α → β} {l : List α} {i : Int} : atI (l.map f) i = (atI l i).map f := by
  unfold atI
  rw [List.length_map]
  rcases ixN l.length i with _ | j
  · rfl
  · simp
theorem at_i {l : List α} {i : Int} (h : 0 ≤ i) (h2 : i < l.length) : atI l i = some (l[i.toNat]'(by omega)) := by
  unfold atI
  rw [ixn_i h h2]
  simp
/-! dicts -/
theorem szK (k : Nat) (h : k ≤ 64 := by decide) : (k ≤ sizeLine) = True := szN k h
theorem sz6 : (6 ≤ sizeLine) = True := szN 6
theorem sz7 : (7 ≤ sizeLine) = True := szN 7
theorem sz8 : (8 ≤ sizeLine) = True := szN 8
theorem szl0 : (0 < sizeLine) = True := by simp only [eq_iff_iff, iff_true]; decide
theorem le_szC {k c : Nat} (h : k ≤ c) (hc : c ≤ 16777216 := by decide) : k ≤ sizeLine := Nat.le_trans h (Nat.le_trans hc (by decide))
theorem lt_szC {k c : Nat} (h : k ≤ c) (hc : c < 16777216 := by decide) : k < sizeLine := Nat.lt_of_le_of_lt h (Nat.lt_of_lt_of_le hc (by decide))
theorem bdC {i : Int} {c : Nat} (h0 : 0 ≤ i) (h : i ≤ c) (hc : c < 2 ^ 62 := by decide) : bd i = true := by
  unfold bd
  rw [Bool.and_eq_true]
  refine ⟨decide_eq_true (by omega), decide_eq_true ?_⟩
  have : (c : Int) < ((2 ^ 62 : Nat) : Int) := Int.ofNat_lt.mpr hc
  have e : (((2 : Nat) ^ 62 : Nat) : Int) = (2 : Int) ^ 62 := by decide
  omega
theorem rngs {a b : Nat} : rng (a : Int) b = (List.range b).map fun i => .int ((a + i : Nat) : Int) := by
  unfold rng
  simp
theorem w_r1 {n : Nat} {Q : Its → Prop} (hn : n ≤ 1000000) : WO (itsR1 [.int (n : Int)]) Q ↔ Q ⟨(List.range n).map fun i => .int ((i : Nat) : Int), none⟩ := by
  unfold itsR1
  rw [w_ite, w_some, Int.toNat_natCast, rng0]
  exact ⟨fun q => q.2, fun q => ⟨bdC (c := 1000000) (by omega) (by omega) (by decide), q⟩⟩
theorem w_r2 {a b : Nat} {Q : Its → Prop} (hn : a ≤ 1000000) (hb : b ≤ 1000000) : WO (itsR2 [.int (a : Int), .int (b : Int)]) Q ↔ Q ⟨(List.range (b - a)).map fun i => .int ((a + i : Nat) : Int), none⟩ := by
  unfold itsR2
  rw [w_ite, w_some, show ((b : Int) - (a : Int)).toNat = b - a by omega, rngs]
  exact ⟨fun q => q.2, fun q => ⟨by rw [bdC (c := 1000000) (by omega) (by omega) (by decide), bdC (c := 1000000) (by omega) (by omega) (by decide)]; rfl, q⟩⟩
end
end PS
namespace PS
open PySem L2
section
variable {α β : Type} {sl : Sl} {S : Sto} {x : Option SV} {QF : Fl → Sl → Sto → Prop}
/-- a loop that leaves the store as it is -/
theorem wfoC {inj : α → D} {l0 : List α} {ds : List D} {g : MG} {b : MS} (I : List α → Sl → Prop) (hd : ds = l0.map inj) (h0 : I [] sl)
    (step : ∀ pre a post sl, l0 = pre ++ a :: post → I pre sl → WG g (inj a) sl S fun sl1 S1 => WM b sl1 S1 fun fl sl2 S2 => WLp fl (S2 = S ∧ I (pre ++ [a]) sl2) (QF .nx sl2 S2) (fun d => QF (.rt d) sl2 S2))
    (hn : ∀ sl, I l0 sl → QF .nx sl S) : WFo ⟨ds, none⟩ g b sl S QF := by
  refine wfo (l0 := l0) (fun pre sl' S' => S' = S ∧ I pre sl') hd ⟨rfl, h0⟩ ?_ ?_
  · rintro pre a post sl1 S1 e ⟨rfl, i⟩
    exact step pre a post sl1 e i
  · rintro sl1 S1 ⟨rfl, i⟩
    exact hn sl1 i
end
end PS
namespace PS
open PySem L2
section
variable {α β : Type} {sl : Sl} {S : Sto} {QO : Ob → Sl → Sto → Prop}
/-- a comprehension without a test, that changes nothing -/
theorem wlcA {inj : α → D} {ds : List D} {g : MG} {e : M D} {vs : List Nat} (l0 : List α) (h : α → D) (hd : ds = l0.map inj) (hl : l0.length ≤ sizeLine)
    (step : ∀ a, a ∈ l0 → WG g (inj a) (wipeS sl vs) S fun sl1 S1 => WM e sl1 S1 fun y sl3 S3 => y = h a ∧ S3 = S ∧ wipeS sl3 vs = wipeS sl vs)
    (hn : QO (.lst (l0.map h)) (rstS sl vs) S) : WLc ⟨ds, none⟩ g tYs e vs sl S QO := by
  refine wlc l0 (fun _ => true) h hd hl (fun a ha => ?_) ?_
  · obtain ⟨s, T, e1, q⟩ := step a ha
    exact ⟨s, T, e1, true, s, T, rfl, rfl, q⟩
  · rw [List.filter_eq_self.mpr (fun _ _ => rfl)]; exact hn
end
theorem cut_2 {a b : D} {l : List D} : mSl.cutV' (a :: b :: l) none (some 2) = [a, b] := by
  unfold mSl.cutV'
  rw [HT.sIx_none]
  have : HT.sIx (a :: b :: l).length (a :: b :: l).length (some 2) = 2 := by
    rw [show (2 : Int) = ((2 : Nat) : Int) from rfl, HT.sIx_nat]; simp
  rw [this]; rfl
theorem cut_from {n : Nat} {l : List D} : mSl.cutV' l (some (n : Int)) none = l.drop n := by
  unfold mSl.cutV'
  rw [HT.sIx_none, HT.sIx_nat]
  rcases Nat.le_total n l.length with h | h
  · rw [Nat.min_eq_left h, List.take_of_length_le (by simp)]
  · rw [Nat.min_eq_right h, List.drop_of_length_le (Nat.le_refl _), List.drop_of_length_le h]; simp
theorem cut_to {n : Nat} {l : List D} : mSl.cutV' l none (some (n : Int)) = l.take n := by
  unfold mSl.cutV'
  rw [HT.sIx_none, HT.sIx_nat]
  rcases Nat.le_total n l.length with h | h
  · rw [Nat.min_eq_left h]; simp
  · rw [Nat.min_eq_right h, List.take_of_length_le h]; simp
end PS

namespace PS
open PySem L2
/-! ### dicts whose keys are codes of plain data -/
section
variable {α β : Type} [DecidableEq α] {f : α → D} {g : β → D}
/-- f codes keys -/
structure KC (f : α → D) : Prop where
  nk : ∀ a, ∃ k, nk (f a) = some k ∧ k.depth ≤ 8
  tp : ∀ a, isTup (f a) = true
  inj : ∀ a b, PS.nk (f a) = PS.nk (f b) → a = b
theorem KC.ok (h : KC f) (a : α) : okKey true (f a) = true := by
  obtain ⟨k, e, hk⟩ := h.nk a
  unfold okKey
  rw [if_pos rfl, h.tp a, e]
  simp [hk]
theorem KC.dec (h : KC f) (a b : α) : (decide (PS.nk (f a) = PS.nk (f b))) = decide (a = b) := by
  rw [decide_eq_decide]
  exact ⟨h.inj a b, fun e => by rw [e]⟩
def kvE (f : α → D) (g : β → D) (l : List (α × β)) : List (D × D) := l.map fun p => (f p.1, g p.2)
def lk (l : List (α × β)) (a : α) : Option β := (l.find? fun p => decide (p.1 = a)).map (·.2)
def put (l : List (α × β)) (a : α) (b : β) : List (α × β) := if (l.any fun p => decide (p.1 = a)) = true then l.map (fun p => if p.1 = a then (p.1, b) else p) else l ++ [(a, b)]
theorem dlk_E (hk : ∀ a b, (decide (PS.nk (f a) = PS.nk (f b))) = decide (a = b)) (l : List (α × β)) (a : α) : dlk (kvE f g l) (f a) = (lk l a).map g := by
  unfold dlk lk kvE
  induction l with
  | nil => rfl
  | cons p l ih =>
    rw [List.map_cons, List.find?_cons, List.find?_cons, hk]
    by_cases h : p.1 = a
    · simp [h]
    · simp only [h, decide_false]; exact ih
theorem dput_E (hk : ∀ a b, (decide (PS.nk (f a) = PS.nk (f b))) = decide (a = b)) (l : List (α × β)) (a : α) (b : β) : dput (kvE f g l) (f a) (g b) = kvE f g (put l a b) := by
  unfold dput put kvE
  have e : ((l.map fun p => (f p.1, g p.2)).any fun p => decide (PS.nk p.1 = PS.nk (f a))) = l.any fun p => decide (p.1 = a) := by
    rw [List.any_map]
    congr 1
    funext p
    exact hk p.1 a
  rw [e]
  by_cases h : (l.any fun p => decide (p.1 = a)) = true
  · rw [if_pos h, if_pos h, List.map_map, List.map_map]
    refine List.map_congr_left fun p _ => ?_
    have := hk p.1 a
    rw [decide_eq_decide] at this
    by_cases hp : p.1 = a
    · simp [hp]
    · have h2 : ¬ PS.nk (f p.1) = PS.nk (f a) := fun q => hp (this.mp q)
      simp [hp, h2]
  · rw [if_neg h, if_neg h, List.map_append]; rfl
theorem lk_some {l : List (α × β)} {a : α} {b : β} (h : lk l a = some b) : (a, b) ∈ l := by
  unfold lk at h
  rw [Option.map_eq_some_iff] at h
  obtain ⟨p, h1, rfl⟩ := h
  have := List.find?_some h1
  have hm := List.mem_of_find?_eq_some h1
  have e : p.1 = a := by simpa using this
  rw [← e]; exact hm
theorem lk_put (l : List (α × β)) (a a' : α) (b : β) : lk (put l a b) a' = if a' = a then some b else lk l a' := by
  unfold put
  by_cases h : (l.any fun p => decide (p.1 = a)) = true
  · rw [if_pos h]
    unfold lk
    induction l with
    | nil => simp at h
    | cons p l ih =>
      rw [List.map_cons, List.find?_cons, List.find?_cons]
      by_cases hp : p.1 = a
      · by_cases ha : a' = a
        · subst ha; simp [hp]
        · have h1 : ¬ a = a' := fun e => ha e.symm
          simp only [hp, if_true, h1, decide_false, if_neg ha]
          clear ih
          congr 1
          have : ∀ l : List (α × β), (l.map fun p => if p.1 = a then (p.1, b) else p).find? (fun p => decide (p.1 = a')) = l.find? fun p => decide (p.1 = a') := fun l => by
            induction l with
            | nil => rfl
            | cons q l ih =>
              rw [List.map_cons, List.find?_cons, List.find?_cons, ih]
              by_cases hq : q.1 = a
              · simp [hq, h1]
              · simp [hq]
          exact this l
      · simp only [hp, if_false]
        by_cases ha : p.1 = a'
        · have : ¬ a' = a := fun e => hp (ha.trans e)
          simp [ha, this]
        · simp only [ha, decide_false]
          have h' : (l.any fun p => decide (p.1 = a)) = true := by
            rw [List.any_cons] at h
            simpa [hp] using h
          exact ih h'
  · rw [if_neg h]
    unfold lk
    rw [List.find?_append]
    have hn : ∀ p ∈ l, ¬ p.1 = a := fun p hp e => h (List.any_eq_true.mpr ⟨p, hp, by simpa using e⟩)
    by_cases ha : a' = a
    · subst ha
      have : l.find? (fun p => decide (p.1 = a')) = none := List.find?_eq_none.mpr fun p hp => by simpa using hn p hp
      rw [this]; simp
    · have h1 : ¬ a = a' := fun e => ha e.symm
      rw [if_neg ha]
      simp [h1]
theorem lk_none {l : List (α × β)} {a : α} : lk l a = none ↔ ∀ p ∈ l, p.1 ≠ a := by
  unfold lk
  rw [Option.map_eq_none_iff, List.find?_eq_none]
  simp
theorem put_mem {l : List (α × β)} {a : α} {b : β} {p : α × β} (h : p ∈ put l a b) : p = (a, b) ∨ p ∈ l := by
  unfold put at h
  split at h
  · obtain ⟨q, hq, rfl⟩ := List.mem_map.mp h
    split
    · rename_i e; rw [e]; exact .inl rfl
    · exact .inr hq
  · rcases List.mem_append.mp h with h | h
    · exact .inr h
    · exact .inl (by simpa using h)
theorem put_len (l : List (α × β)) (a : α) (b : β) : (put l a b).length ≤ l.length + 1 := by
  unfold put
  split <;> simp
theorem put_new {l : List (α × β)} {a : α} {b : β} (h : lk l a = none) : put l a b = l ++ [(a, b)] := by
  unfold put
  rw [if_neg]
  intro e
  obtain ⟨p, hp, e⟩ := List.any_eq_true.mp e
  exact lk_none.mp h p hp (by simpa using e)
theorem kvE_len (l : List (α × β)) : (kvE f g l).length = l.length := by unfold kvE; rw [List.length_map]
end
/-! keys -/
theorem nks_map {α : Type} {f : α → D} {k : α → NestedKey} (h : ∀ a, nk (f a) = some (k a)) : ∀ l : List α, nks (l.map f) = some (l.map k)
  | [] => rfl
  | a :: l => by rw [List.map_cons, nks, h, nks_map h l]; rfl
theorem nk_int (i : Int) : nk (.int i) = some (.num i) := rfl
theorem nk_str (i : Str) : nk (.str i) = some (.text i) := rfl
theorem nk_tup {α : Type} {f : α → D} {k : α → NestedKey} (h : ∀ a, nk (f a) = some (k a)) (l : List α) : nk (.tup (l.map f)) = some (.tup (l.map k)) := by rw [nk, nks_map h]; rfl
theorem dep_map {α : Type} {k : α → NestedKey} {n : Nat} (h : ∀ a, (k a).depth ≤ n) : ∀ l : List α, NestedKey.depthAll (l.map k) ≤ n
  | [] => by simp [NestedKey.depthAll]
  | a :: l => by
    rw [List.map_cons, NestedKey.depthAll]
    exact Nat.max_le.mpr ⟨h a, dep_map h l⟩
def kZ (m : List Int) : NestedKey := .tup (m.map .num)
theorem nk_tZ (m : List Int) : nk (tZ m) = some (kZ m) := nk_tup nk_int m
theorem kZ_dep (m : List Int) : (kZ m).depth ≤ 1 := by
  have := dep_map (k := NestedKey.num) (n := 0) (fun a => Nat.le_refl _) m
  unfold kZ
  rw [NestedKey.depth]; omega
theorem map_injL {α β : Type} {f : α → β} (h : ∀ a b, f a = f b → a = b) : ∀ l m : List α, l.map f = m.map f → l = m
  | [], [], _ => rfl
  | [], _ :: _, e => by cases e
  | _ :: _, [], e => by cases e
  | a :: l, b :: m, e => by
    rw [List.map_cons, List.map_cons] at e
    injection e with e1 e2
    rw [h a b e1, map_injL h l m e2]
theorem kZ_inj (a b : List Int) (h : kZ a = kZ b) : a = b := by
  unfold kZ at h
  injection h with h
  exact map_injL (fun x y e => by injection e) _ _ h
theorem kc_tZ : KC (fun m : List Int => tZ m) := ⟨fun m => ⟨_, nk_tZ m, Nat.le_trans (kZ_dep m) (by decide)⟩, fun _ => rfl, fun a b e => by
  rw [nk_tZ, nk_tZ] at e
  injection e with e
  exact kZ_inj _ _ e⟩
abbrev tZZ (S : List (List Int)) : D := .tup (S.map fun m => tZ m)
def kZZ (S : List (List Int)) : NestedKey := .tup (S.map kZ)
theorem nk_tZZ (S : List (List Int)) : nk (tZZ S) = some (kZZ S) := nk_tup nk_tZ S
theorem kc_tZZ : KC (fun S : List (List Int) => tZZ S) := ⟨fun m => ⟨_, nk_tZZ m, by
  have := dep_map (k := kZ) (n := 1) kZ_dep m
  unfold kZZ
  rw [NestedKey.depth]; omega⟩, fun _ => rfl, fun a b e => by
  rw [nk_tZZ, nk_tZZ] at e
  injection e with e
  unfold kZZ at e
  injection e with e
  exact map_injL kZ_inj _ _ e⟩
/-- pairs of numbers -/
def tP2 (p : Nat × Nat) : D := .tup [.int p.1, .int p.2]
theorem nk_tP2 (p : Nat × Nat) : nk (tP2 p) = some (.tup [.num p.1, .num p.2]) := rfl
theorem kc_tP2 : KC tP2 := ⟨fun p => ⟨_, nk_tP2 p, by simp [NestedKey.depth, NestedKey.depthAll]⟩, fun _ => rfl, fun a b e => by
  rw [nk_tP2, nk_tP2] at e
  injection e with e
  injection e with e
  injection e with e1 e2
  injection e2 with e2 _
  injection e1 with e1
  injection e2 with e2
  exact Prod.ext (by omega) (by omega)⟩

/-! ### release -/
/-- names no object of the store -/
def Cl (d : D) : Prop := ∀ r, fzF r d = some d
def Cls' (ds : List D) : Prop := ∀ r, fzFs r ds = some ds
theorem cl_int {i : Int} : Cl (.int i) := fun _ => rfl
theorem cl_str {i : Str} : Cl (.str i) := fun _ => rfl
theorem cl_bl {i : Bool} : Cl (.bl i) := fun _ => rfl
theorem cl_non : Cl .non := fun _ => rfl
theorem cls_nil : Cls' [] := fun _ => rfl
theorem cls_cons {d : D} {ds : List D} (h : Cl d) (h2 : Cls' ds) : Cls' (d :: ds) := fun r => by rw [fzFs, h r, h2 r]
theorem cls_all {ds : List D} (h : ∀ d ∈ ds, Cl d) : Cls' ds := by
  induction ds with
  | nil => exact cls_nil
  | cons d ds ih => exact cls_cons (h d (List.mem_cons_self ..)) (ih fun e he => h e (List.mem_cons_of_mem _ he))
theorem cls_map {α : Type} {f : α → D} {l : List α} (h : ∀ a ∈ l, Cl (f a)) : Cls' (l.map f) := cls_all fun d hd => by
  obtain ⟨a, ha, rfl⟩ := List.mem_map.mp hd
  exact h a ha
theorem cl_tup {ds : List D} (h : Cls' ds) : Cl (.tup ds) := fun r => by rw [fzF, h r]; rfl
theorem cl_lst {ds : List D} (h : Cls' ds) : Cl (.lst ds) := fun r => by rw [fzF, h r]; rfl
def ClO (ob : Ob) : Prop := ∀ r, fzO r ob = some ob
theorem clO_lst {ds : List D} (h : Cls' ds) : ClO (.lst ds) := fun r => by rw [fzO, h r]; rfl
def ClS (S : Sto) : Prop := ∀ ob ∈ S, ClO ob
theorem clS_nil : ClS [] := fun _ h => by cases h
theorem clS_app {S T : Sto} (h : ClS S) (h2 : ClS T) : ClS (S ++ T) := fun ob ho => (List.mem_append.mp ho).elim (h ob) (h2 ob)
theorem clS_set {S : Sto} {n : Nat} {ob : Ob} (h : ClS S) (h2 : ClO ob) : ClS (S.set n ob) := fun x hx => by
  rcases List.mem_or_eq_of_mem_set hx with hx | rfl
  · exact h x hx
  · exact h2
theorem fzOs_app {S X : Sto} (h : ClS S) {n0 : Nat} : ∀ {k : Nat}, k ≤ S.length → fzOs n0 (S ++ X) k = some (S.take k)
  | 0, _ => by simp [fzOs]
  | k + 1, hk => by
    rw [fzOs, fzOs_app h (by omega), List.getElem?_append_left (by omega), List.getElem?_eq_getElem (by omega)]
    dsimp only
    rw [h _ (List.getElem_mem _)]
    simp only [Option.map_some]
    rw [List.take_add_one, List.getElem?_eq_getElem (by omega)]; rfl
theorem rel_app {S X : Sto} {d : D} (h : ClS S) (hd : Cl d) : rel S.length (d, S ++ X) = some (d, S) := by
  unfold rel
  by_cases e : (S ++ X).length = S.length
  · rw [if_pos e]
    have : X = [] := by rw [List.length_append] at e; exact List.length_eq_zero_iff.mp (by omega)
    rw [this, List.append_nil]
  · rw [if_neg e]
    dsimp only
    rw [hd, fzOs_app h (Nat.le_refl _), List.take_length]
theorem rel_same {S S' : Sto} {d : D} (h : S'.length = S.length) : rel S.length (d, S') = some (d, S') := by
  unfold rel
  rw [if_pos h]
/-- a new object, given back: it is frozen -/
theorem rel_new {S : Sto} {ob : Ob} (h : ClS S) (hd : ClO ob) : rel S.length (.loc S.length, S ++ [ob]) = some (ob.fz, S) := by
  unfold rel
  rw [if_neg (by simp)]
  dsimp only
  rw [fzOs_app h (Nat.le_refl _), List.take_length]
  have e : fzF (fzR S.length (S ++ [ob]) (S ++ [ob]).length) (.loc S.length) = some ob.fz := by
    rw [fzF, List.length_append]
    show fzR S.length (S ++ [ob]) (S.length + 1) S.length = _
    rw [fzR]
    dsimp only
    rw [if_neg (by omega)]
    simp only [List.getElem?_append_right (Nat.le_refl _), Nat.sub_self, List.getElem?_cons_zero]
    have := hd (fzR S.length (S ++ [ob]) S.length)
    cases ob with
    | lst ds =>
      rw [fzO, Option.map_eq_some_iff] at this
      obtain ⟨a, h1, h2⟩ := this
      cases h2
      show fzF _ (.lst ds) = _
      rw [fzF, h1]; rfl
    | dct t kvs =>
      rw [fzO, Option.map_eq_some_iff] at this
      obtain ⟨a, h1, h2⟩ := this
      cases h2
      show fzF _ (.dct t kvs) = _
      rw [fzF, h1]; rfl
    | ins c fs =>
      rw [fzO, Option.map_eq_some_iff] at this
      obtain ⟨a, h1, h2⟩ := this
      cases h2
      show fzF _ (.ins c fs) = _
      rw [fzF, h1]; rfl
  rw [e]
theorem set_last {α : Type} {l : List α} {a b : α} : (l ++ [a]).set l.length b = l ++ [b] := by
  rw [List.set_append_right _ _ (Nat.le_refl _), Nat.sub_self]; rfl
theorem at_last2 {α : Type} {l : List α} {a b : α} : (l ++ [a] ++ [b])[l.length]? = some a := by
  rw [List.append_assoc, List.getElem?_append_right (Nat.le_refl _), Nat.sub_self]; rfl
theorem set_last2 {α : Type} {l : List α} {a b c : α} : (l ++ [a] ++ [b]).set l.length c = l ++ [c] ++ [b] := by
  rw [List.append_assoc, List.set_append_right _ _ (Nat.le_refl _), Nat.sub_self, List.append_assoc]; rfl
/-- a turn of while -/
theorem w_wh1 {t : M Bool} {b : MS} {sl : Sl} {S : Sto} {QF : Fl → Sl → Sto → Prop}
    (h : WM t sl S fun c sl1 S1 => WI c (WM b sl1 S1 fun fl sl2 S2 => WLp fl (WM (sWh t b) sl2 S2 QF) (QF .nx sl2 S2) (fun d => QF (.rt d) sl2 S2)) (QF .nx sl1 S1)) : WM (sWh t b) sl S QF := by
  have key : ∀ sl2 S2, WM (sWh t b) sl2 S2 QF → ∃ k fl sl' S', whN t b k sl2 S2 = some (fl, sl', S') ∧ QF fl sl' S' := by
    rintro sl2 S2 ⟨fl, s', S', e, q⟩
    unfold sWh at e
    split at e
    · rename_i hh
      exact ⟨_, fl, s', S', e, q⟩
    · cases e
  obtain ⟨c, sl1, S1, e1, q⟩ := h
  cases c with
  | false => exact ⟨.nx, sl1, S1, sWh_of (n := 1) (by simp only [whN, e1]), q⟩
  | true =>
    obtain ⟨fl, sl2, S2, e2, q⟩ := q
    cases fl with
    | nx =>
      obtain ⟨k, fl, s', S', e3, q⟩ := key _ _ q
      exact ⟨fl, s', S', sWh_of (n := k + 1) (by simp only [whN, e1, e2]; exact e3), q⟩
    | ct =>
      obtain ⟨k, fl, s', S', e3, q⟩ := key _ _ q
      exact ⟨fl, s', S', sWh_of (n := k + 1) (by simp only [whN, e1, e2]; exact e3), q⟩
    | bk => exact ⟨.nx, sl2, S2, sWh_of (n := 1) (by simp only [whN, e1, e2]), q⟩
    | rt d => exact ⟨.rt d, sl2, S2, sWh_of (n := 1) (by simp only [whN, e1, e2]), q⟩
end PS

namespace PS
open PySem L2 PySem.W PyProof.Rows
/-! ### the order of plain data -/
theorem dlt_irrefl (a : PyData) : dataLt a a = false := (listOrd itemOrd).irrefl (keyToks a)
theorem dlt_neg {a b c : PyData} (h1 : dataLt a b = false) (h2 : dataLt b c = false) : dataLt a c = false := KeyOrd.kle_trans (O := listOrd itemOrd) (a := keyToks c) (b := keyToks b) (c := keyToks a) h2 h1
theorem dlt_trans {a b c : PyData} (h1 : dataLt a b = true) (h2 : dataLt b c = true) : dataLt a c = true := (listOrd itemOrd).trans _ _ _ h1 h2
theorem dlt_asymm {a b : PyData} (h1 : dataLt a b = true) : dataLt b a = false := by
  cases h : dataLt b a with
  | false => rfl
  | true => have := dlt_trans h1 h; rw [dlt_irrefl] at this; cases this
theorem minD_spec (x : PyData) : ∀ xs : List PyData, minD x xs ∈ x :: xs ∧ ∀ y ∈ x :: xs, dataLt y (minD x xs) = false := by
  intro xs
  unfold minD
  induction xs generalizing x with
  | nil => exact ⟨by simp, fun y hy => by
    have : y = x := by simpa using hy
    subst this
    exact dlt_irrefl y⟩
  | cons k r ih =>
    rw [List.foldl_cons]
    obtain ⟨h1, h2⟩ := ih (if dataLt k x then k else x)
    constructor
    · rcases List.mem_cons.mp h1 with e | e
      · rw [e]; split <;> simp
      · exact List.mem_cons_of_mem _ (List.mem_cons_of_mem _ e)
    · intro y hy
      have hb := h2 _ (List.mem_cons_self ..)
      rcases List.mem_cons.mp hy with rfl | hy
      · refine dlt_neg ?_ hb
        split
        · rename_i h; exact dlt_asymm h
        · exact dlt_irrefl _
      rcases List.mem_cons.mp hy with rfl | hy
      · refine dlt_neg ?_ hb
        split
        · exact dlt_irrefl _
        · rename_i h; simpa using h
      · exact h2 y (List.mem_cons_of_mem _ hy)
theorem maxD_spec (x : PyData) : ∀ xs : List PyData, maxD x xs ∈ x :: xs ∧ ∀ y ∈ x :: xs, dataLt (maxD x xs) y = false := by
  intro xs
  unfold maxD
  induction xs generalizing x with
  | nil => exact ⟨by simp, fun y hy => by
    have : y = x := by simpa using hy
    subst this
    exact dlt_irrefl y⟩
  | cons k r ih =>
    rw [List.foldl_cons]
    obtain ⟨h1, h2⟩ := ih (if dataLt x k then k else x)
    constructor
    · rcases List.mem_cons.mp h1 with e | e
      · rw [e]; split <;> simp
      · exact List.mem_cons_of_mem _ (List.mem_cons_of_mem _ e)
    · intro y hy
      have hb := h2 _ (List.mem_cons_self ..)
      rcases List.mem_cons.mp hy with rfl | hy
      · refine dlt_neg hb ?_
        split
        · rename_i h; exact dlt_asymm h
        · exact dlt_irrefl _
      rcases List.mem_cons.mp hy with rfl | hy
      · refine dlt_neg hb ?_
        split
        · exact dlt_irrefl _
        · rename_i h; simpa using h
      · exact h2 y (List.mem_cons_of_mem _ hy)
theorem pys_eq (ds : List D) : pys ds = ds.map py := by
  induction ds with
  | nil => rfl
  | cons d ds ih => rw [pys, ih]; rfl
/-- the least of some values -/
theorem mm_min {ds : List D} (hn : ds ≠ []) (h : pls ds = true) : ∃ d ∈ ds, mmD minD ds = d ∧ ∀ e ∈ ds, dataLt (py e) (py d) = false := by
  obtain ⟨d, ds, rfl⟩ : ∃ d r, ds = d :: r := by cases ds with
    | nil => exact absurd rfl hn
    | cons d r => exact ⟨d, r, rfl⟩
  obtain ⟨h1, h2⟩ := minD_spec (py d) (pys ds)
  rw [show py d :: pys ds = pys (d :: ds) from rfl, pys_eq] at h1 h2
  obtain ⟨e, he, e2⟩ := List.mem_map.mp h1
  have hp : pl e = true := by
    clear h1 h2 e2 hn
    generalize d :: ds = l at h he
    induction l with
    | nil => cases he
    | cons x l ih =>
      rw [pls, Bool.and_eq_true] at h
      rcases List.mem_cons.mp he with rfl | he
      · exact h.1
      · exact ih h.2 he
  refine ⟨e, he, ?_, fun f hf => ?_⟩
  · show yp (minD (py d) (pys ds)) = e
    rw [← e2, yp_py hp]
  · rw [e2]; exact h2 _ (List.mem_map.mpr ⟨f, hf, rfl⟩)
theorem mm_max {ds : List D} (hn : ds ≠ []) (h : pls ds = true) : ∃ d ∈ ds, mmD maxD ds = d ∧ ∀ e ∈ ds, dataLt (py d) (py e) = false := by
  obtain ⟨d, ds, rfl⟩ : ∃ d r, ds = d :: r := by cases ds with
    | nil => exact absurd rfl hn
    | cons d r => exact ⟨d, r, rfl⟩
  obtain ⟨h1, h2⟩ := maxD_spec (py d) (pys ds)
  rw [show py d :: pys ds = pys (d :: ds) from rfl, pys_eq] at h1 h2
  obtain ⟨e, he, e2⟩ := List.mem_map.mp h1
  have hp : pl e = true := by
    clear h1 h2 e2 hn
    generalize d :: ds = l at h he
    induction l with
    | nil => cases he
    | cons x l ih =>
      rw [pls, Bool.and_eq_true] at h
      rcases List.mem_cons.mp he with rfl | he
      · exact h.1
      · exact ih h.2 he
  refine ⟨e, he, ?_, fun f hf => ?_⟩
  · show yp (maxD (py d) (pys ds)) = e
    rw [← e2, yp_py hp]
  · rw [e2]; exact h2 _ (List.mem_map.mpr ⟨f, hf, rfl⟩)
/-! numbers -/
def maxN' : List Int → Int
  | [] => 0
  | x :: l => l.foldl max x
def minN' : List Int → Int
  | [] => 0
  | x :: l => l.foldl min x
theorem mm_maxI : ∀ {l : List Int}, l ≠ [] → mmD maxD (l.map .int) = .int (maxN' l)
  | [], h => absurd rfl h
  | x :: l, _ => by
    rw [List.map_cons, mmD, pys_ints]
    show yp (maxD (.int x) _) = _
    rw [maxD_ints]; rfl
theorem mm_minI : ∀ {l : List Int}, l ≠ [] → mmD minD (l.map .int) = .int (minN' l)
  | [], h => absurd rfl h
  | x :: l, _ => by
    rw [List.map_cons, mmD, pys_ints]
    show yp (minD (.int x) _) = _
    rw [minD_ints]; rfl
theorem foldl_max_le {k : Int} : ∀ (l : List Int) (x : Int), x ≤ k → (∀ y ∈ l, y ≤ k) → l.foldl max x ≤ k
  | [], x, h, _ => h
  | y :: l, x, h, h2 => by
    rw [List.foldl_cons]
    exact foldl_max_le l _ (by have := h2 y (List.mem_cons_self ..); omega) fun z hz => h2 z (List.mem_cons_of_mem _ hz)
theorem le_foldl_max : ∀ (l : List Int) (x : Int), x ≤ l.foldl max x ∧ ∀ y ∈ l, y ≤ l.foldl max x
  | [], x => ⟨Int.le_refl _, fun y h => by cases h⟩
  | z :: l, x => by
    rw [List.foldl_cons]
    obtain ⟨h1, h2⟩ := le_foldl_max l (max x z)
    refine ⟨by omega, fun y hy => ?_⟩
    rcases List.mem_cons.mp hy with rfl | hy
    · omega
    · exact h2 y hy
theorem maxN'_mem : ∀ {l : List Int}, l ≠ [] → maxN' l ∈ l := by
  have key : ∀ (l : List Int) (x : Int), l.foldl max x ∈ x :: l := by
    intro l
    induction l with
    | nil => intro x; simp
    | cons y l ih =>
      intro x
      rw [List.foldl_cons]
      rcases List.mem_cons.mp (ih (max x y)) with e | e
      · rw [e]
        rcases Int.le_total x y with h | h
        · rw [Int.max_eq_right h]; simp
        · rw [Int.max_eq_left h]; simp
      · exact List.mem_cons_of_mem _ (List.mem_cons_of_mem _ e)
  intro l h
  cases l with
  | nil => exact absurd rfl h
  | cons x l => exact key l x
theorem le_maxN' {l : List Int} {y : Int} (h : y ∈ l) : y ≤ maxN' l := by
  cases l with
  | nil => cases h
  | cons x l =>
    obtain ⟨h1, h2⟩ := le_foldl_max l x
    rcases List.mem_cons.mp h with rfl | h
    · exact h1
    · exact h2 y h
theorem minN'_le : ∀ {l : List Int} {y : Int}, y ∈ l → minN' l ≤ y := by
  have key : ∀ (l : List Int) (x : Int), l.foldl min x ≤ x ∧ ∀ y ∈ l, l.foldl min x ≤ y := by
    intro l
    induction l with
    | nil => exact fun x => ⟨Int.le_refl _, fun y h => by cases h⟩
    | cons z l ih =>
      intro x
      rw [List.foldl_cons]
      obtain ⟨h1, h2⟩ := ih (min x z)
      refine ⟨by omega, fun y hy => ?_⟩
      rcases List.mem_cons.mp hy with rfl | hy
      · omega
      · exact h2 y hy
  intro l y h
  cases l with
  | nil => cases h
  | cons x l =>
    obtain ⟨h1, h2⟩ := key l x
    rcases List.mem_cons.mp h with rfl | h
    · exact h1
    · exact h2 y h
theorem minN'_mem : ∀ {l : List Int}, l ≠ [] → minN' l ∈ l := by
  have key : ∀ (l : List Int) (x : Int), l.foldl min x ∈ x :: l := by
    intro l
    induction l with
    | nil => intro x; simp
    | cons y l ih =>
      intro x
      rw [List.foldl_cons]
      rcases List.mem_cons.mp (ih (min x y)) with e | e
      · rw [e]
        rcases Int.le_total x y with h | h
        · rw [Int.min_eq_left h]; simp
        · rw [Int.min_eq_right h]; simp
      · exact List.mem_cons_of_mem _ (List.mem_cons_of_mem _ e)
  intro l h
  cases l with
  | nil => exact absurd rfl h
  | cons x l => exact key l x
/-! what can be compared -/
theorem alk_map {α : Type} {f : α → D} {l : List α} (h : pls (l.map f) = true) (h2 : ∀ a ∈ l, ∀ b ∈ l, alike (py (f a)) (py (f b)) = true) : alk (l.map f) = true := by
  unfold alk
  rw [h, Bool.true_and, pys_eq, List.all_eq_true]
  intro x hx
  rw [List.all_eq_true]
  intro y hy
  simp only [List.mem_map] at hx hy
  obtain ⟨_, ⟨a, ha, rfl⟩, rfl⟩ := hx
  obtain ⟨_, ⟨b, hb, rfl⟩, rfl⟩ := hy
  exact h2 a ha b hb
theorem noN_map {α : Type} {f : α → D} {l : List α} (h : ∀ a ∈ l, f a ≠ .non) : noN (l.map f) = true := by
  unfold noN
  rw [List.all_eq_true]
  intro d hd
  obtain ⟨a, ha, rfl⟩ := List.mem_map.mp hd
  have := h a ha
  cases e : f a <;> first | rfl | exact absurd e this
theorem mmOk_map {α : Type} {f : α → D} {l : List α} (h : Pds 60 (l.map f)) (h2 : ∀ a ∈ l, ∀ b ∈ l, alike (py (f a)) (py (f b)) = true) (h3 : ∀ a ∈ l, f a ≠ .non) : mmOk (l.map f) :=
  ⟨alk_map h.1 h2, noN_map h3, h.2⟩
theorem mmOk_ints (l : List Int) : mmOk (l.map .int) := mmOk_map (pds_map fun _ _ => pd_int) (fun _ _ _ _ => by simp [py, alike]) (fun _ _ => by simp)
theorem al_int {i j : Int} : alike (.int i) (.int j) = true := by simp [alike]
theorem al_str {i j : Str} : alike (.str i) (.str j) = true := by simp [alike]
theorem al_tt {xs ys : List PyData} : alike (.tuple xs) (.tuple ys) = alikeAll xs ys := by simp [alike]
theorem al_cc {x y : PyData} {xs ys : List PyData} : alikeAll (x :: xs) (y :: ys) = (alike x y && alikeAll xs ys) := by simp [alikeAll]
theorem al_nil {xs : List PyData} : alikeAll [] xs = true := by simp [alikeAll]
/-! tuples: the first items decide -/
theorem dlt_int (i j : Int) : dataLt (.int i) (.int j) = decide (i < j) := dataLt_int i j
theorem dlt_cons {x y : PyData} {xs ys : List PyData} (h : alike x y = true) : dataLt (.tuple (x :: xs)) (.tuple (y :: ys)) = if PyData.eqv x y = true then dataLt (.tuple xs) (.tuple ys) else dataLt x y := by
  rw [dataLt_tuple]
  cases e : PyData.eqv x y with
  | true => rw [dataLt_all_yes h e, if_pos rfl, dataLt_tuple]
  | false => rw [dataLt_all_no h e, if_neg (by simp)]
theorem dlt_intc {i j : Int} {xs ys : List PyData} : dataLt (.tuple (.int i :: xs)) (.tuple (.int j :: ys)) = if i = j then dataLt (.tuple xs) (.tuple ys) else decide (i < j) := by
  rw [dlt_cons al_int, eqv_int]
  by_cases h : i = j
  · simp [h]
  · simp [h, dlt_int]
theorem dlt_nn : dataLt (.tuple []) (.tuple []) = false := dlt_irrefl _
theorem dlt_nc {y : PyData} {ys : List PyData} : dataLt (.tuple []) (.tuple (y :: ys)) = true := by
  rw [dataLt_tuple, keyToksAll, keyToksAll]
  show lexLt itemOrd (.inl 0 :: []) (.inl 1 :: _) = true
  rw [lex_cons]
  rfl
theorem dlt_cn {y : PyData} {ys : List PyData} : dataLt (.tuple (y :: ys)) (.tuple []) = false := dlt_asymm dlt_nc
/-! sorted -/
theorem dSrt_perm (ds : List D) : (dSrt ds).Perm ds := List.mergeSort_perm _ _
theorem dSrt_sorted (ds : List D) : (dSrt ds).Pairwise fun a b => dataLt (py b) (py a) = false := by
  have h := List.pairwise_mergeSort (le := dataLe false py) (fun a b c h1 h2 => by
    unfold dataLe sortLe at *
    simp only [cond_false, Bool.not_eq_true'] at *
    exact dlt_neg h2 h1) (fun a b => by
    show (!dataLt (py b) (py a) || !dataLt (py a) (py b)) = true
    cases h : dataLt (py b) (py a) with
    | false => rfl
    | true =>
      rw [dlt_asymm h]; rfl) ds
  refine h.imp fun {a b} h => ?_
  unfold dataLe sortLe at h
  simp only [cond_false, Bool.not_eq_true'] at h
  exact h
theorem srOk_map {α : Type} {f : α → D} {l : List α} (hl : l.length ≤ 16777216) (h : Pds 60 (l.map f)) (h2 : ∀ a ∈ l, ∀ b ∈ l, alike (py (f a)) (py (f b)) = true) (h3 : (∀ a ∈ l, ∃ x r, py (f a) = .tuple (x :: r)) ∨ ∀ a ∈ l, py (f a) ≠ .none ∧ ∀ xs, py (f a) ≠ .tuple xs) : srOk (l.map f) := by
  refine ⟨by rw [List.length_map]; exact Nat.le_trans hl (by decide), alk_map h.1 h2, ?_, h.2⟩
  unfold srtOk
  rw [Bool.or_eq_true, pys_eq, List.map_map]
  rcases h3 with h3 | h3
  · refine .inl (List.all_eq_true.mpr fun x hx => ?_)
    obtain ⟨a, ha, rfl⟩ := List.mem_map.mp hx
    obtain ⟨y, r, e⟩ := h3 a ha
    show (match py (f a) with | .tuple (_ :: _) => true | _ => false) = true
    rw [e]
  · refine .inr (List.all_eq_true.mpr fun x hx => ?_)
    obtain ⟨a, ha, rfl⟩ := List.mem_map.mp hx
    obtain ⟨h4, h5⟩ := h3 a ha
    show (match py (f a) with | .none => false | .tuple _ => false | _ => true) = true
    cases e : py (f a) <;> first | rfl | exact absurd e h4 | exact absurd e (h5 _)
/-- sorting by a code: as the list sorts -/
theorem dSrt_map {α : Type} {f : α → D} {lt : α → α → Bool} (h : ∀ a b, dataLt (py (f a)) (py (f b)) = lt a b) (l : List α) : dSrt (l.map f) = (l.mergeSort fun a b => !lt b a).map f := by
  unfold dSrt
  refine (List.map_mergeSort (f := f) (s := dataLe false py) (r := fun a b => !lt b a) (l := l) fun a _ b _ => ?_).symm
  rw [← h b a]
  rfl
/-- a list in order is what its permutations are sorted to -/
theorem sort_perm {α : Type} {le : α → α → Bool} {l m : List α} (ht : ∀ a b c, le a b = true → le b c = true → le a c = true) (hh : ∀ a b, (le a b || le b a) = true) (ha : ∀ a b, a ∈ l → b ∈ l → le a b = true → le b a = true → a = b) (hp : l.Perm m) (hs : l.Pairwise fun a b => le a b = true) : m.mergeSort le = l := by
  have h1 := List.pairwise_mergeSort (le := le) ht hh m
  have h2 := (List.mergeSort_perm m le).trans hp.symm
  exact List.Perm.eq_of_pairwise (fun a b hx hy => ha a b (h2.mem_iff.mp hx) hy) h1 hs h2
/-! how many keys there are -/
theorem subl_count {α : Type} : ∀ (E : List α) (L : List (List α)), L.Nodup → (∀ T ∈ L, T.Sublist E) → L.length ≤ 2 ^ E.length
  | [], L, hn, h => by
    cases L with
    | nil => simp
    | cons T L =>
      cases L with
      | nil => simp
      | cons U L =>
        have h1 : T = [] := by simpa using h T (by simp)
        have h2 : U = [] := by simpa using h U (by simp)
        rw [h1, h2] at hn
        simp at hn
  | e :: E, L, hn, h => by
    classical
    have key : ∀ T ∈ L, T.Sublist E ∨ ∃ T', T = e :: T' ∧ T'.Sublist E := fun T hT => by
      cases h T hT with
      | cons _ s => exact .inl s
      | cons_cons _ s => exact .inr ⟨_, rfl, s⟩
    let p : List α → Bool := fun T => decide (T.Sublist E)
    have hl : L.length = (L.filter p).length + (L.filter fun T => !p T).length := by
      clear hn h key
      induction L with
      | nil => rfl
      | cons T L ih => cases c : p T <;> simp [List.filter_cons, c] <;> omega
    have h1 := subl_count E (L.filter p) (hn.sublist List.filter_sublist) fun T hT => of_decide_eq_true (List.mem_filter.mp hT).2
    have h2 := subl_count E ((L.filter fun T => !p T).map List.tail) (by
      refine List.Pairwise.map _ (fun a b (hab : _ ∧ _ ∧ a ≠ b) e' => hab.2.2 ?_) (List.Pairwise.and_mem.mp (hn.sublist (List.filter_sublist (p := fun T => !p T))))
      have g : ∀ T ∈ L.filter (fun T => !p T), ∃ T', T = e :: T' := fun T hT => by
        obtain ⟨m, np⟩ := List.mem_filter.mp hT
        rcases key T m with s | ⟨T', e, _⟩
        · simp [p, s] at np
        · exact ⟨T', e⟩
      obtain ⟨a', rfl⟩ := g a hab.1
      obtain ⟨b', rfl⟩ := g b hab.2.1
      rw [List.tail_cons, List.tail_cons] at e'
      rw [e']) (fun T hT => by
      obtain ⟨U, hU, rfl⟩ := List.mem_map.mp hT
      obtain ⟨m, np⟩ := List.mem_filter.mp hU
      rcases key U m with s | ⟨T', rfl, s⟩
      · simp [p, s] at np
      · exact s)
    rw [List.length_map] at h2
    rw [List.length_cons, Nat.pow_succ]
    omega
end PS

namespace PS
open PySem L2
/-! ### drawn numbers: sizes -/
def Bn (k : Nat) (x : Int) : Prop := x.natAbs < 2 ^ k
theorem Bn.mono {k m : Nat} {x : Int} (h : Bn k x) (hk : k ≤ m) : Bn m x := Nat.lt_of_lt_of_le h (Nat.pow_le_pow_right (by decide) hk)
theorem Bn.mul {k m : Nat} {x y : Int} (h : Bn k x) (h2 : Bn m y) : Bn (k + m) (x * y) := by
  unfold Bn at *
  rw [Int.natAbs_mul, Nat.pow_add]
  rcases Nat.eq_zero_or_pos y.natAbs with e | e
  · rw [e, Nat.mul_zero]; exact Nat.mul_pos (Nat.two_pow_pos _) (Nat.two_pow_pos _)
  · exact Nat.lt_of_lt_of_le (Nat.mul_lt_mul_of_pos_right h e) (Nat.mul_le_mul_left _ (Nat.le_of_lt h2))
theorem Bn.add {k : Nat} {x y : Int} (h : Bn k x) (h2 : Bn k y) : Bn (k + 1) (x + y) := by
  unfold Bn at *
  have := Int.natAbs_add_le x y
  rw [Nat.pow_succ]; omega
theorem Bn.mod {k : Nat} {x p : Int} (hp : 0 < p) (h : Bn k p) : Bn k (x % p) := by
  unfold Bn at *
  have h1 := Int.emod_nonneg x (show p ≠ 0 by omega)
  have h2 := Int.emod_lt_of_pos x hp
  omega
theorem Bn.pow {k : Nat} {x : Int} (h : Bn k x) : ∀ n : Nat, Bn (k * n + 1) (x ^ n)
  | 0 => by rw [Int.pow_zero]; show (1 : Nat) < 2 ^ 1; decide
  | n + 1 => by
    rw [Int.pow_succ]
    have := (Bn.pow h n).mul h
    exact this.mono (by rw [Nat.mul_succ]; omega)
theorem Bn.log {k : Nat} {x : Int} (h : Bn k x) : x.natAbs.log2 ≤ k := by
  unfold Bn at h
  rcases Nat.eq_zero_or_pos x.natAbs with e | e
  · rw [e]; simp
  · exact Nat.le_of_lt ((Nat.log2_lt (by omega)).mpr h)
theorem Bn.lg {k m : Nat} {x y : Int} (h : Bn k x) (h2 : Bn m y) (hk : k + m < 1000000 := by decide) : x.natAbs.log2 + y.natAbs.log2 < 1000000 := by
  have := h.log
  have := h2.log
  omega
theorem Bn.bits {k : Nat} {x : Int} (h : Bn k x) : Builtin.Int.intBits x ≤ k + 1 := by
  have := h.log
  unfold Builtin.Int.intBits
  split <;> omega
theorem Bn.of {k : Nat} {x : Int} (h0 : 0 ≤ x) (h : x < ((2 ^ k : Nat) : Int)) : Bn k x := by
  unfold Bn; omega
/-- one of five primes -/
theorem prime5 {p0 p1 p2 p3 p4 x : Int} (h : 0 < p0 ∧ 0 < p1 ∧ 0 < p2 ∧ 0 < p3 ∧ 0 < p4) (k : p0 < 2147483648 ∧ p1 < 2147483648 ∧ p2 < 2147483648 ∧ p3 < 2147483648 ∧ p4 < 2147483648) : ∃ p, atI [D.int p0, D.int p1, D.int p2, D.int p3, D.int p4] (x % 5) = some (.int p) ∧ 0 < p ∧ Bn 31 p := by
  have h1 := Int.emod_nonneg x (show (5 : Int) ≠ 0 by decide)
  have h2 := Int.emod_lt_of_pos x (show (0 : Int) < 5 by decide)
  have hb : ∀ p : Int, 0 < p → p < 2147483648 → Bn 31 p := fun p a b => .of (by omega) (by omega)
  have : x % 5 = 0 ∨ x % 5 = 1 ∨ x % 5 = 2 ∨ x % 5 = 3 ∨ x % 5 = 4 := by omega
  rcases this with e | e | e | e | e <;> rw [e]
  · exact ⟨p0, at_0, h.1, hb _ h.1 k.1⟩
  · exact ⟨p1, at_1, h.2.1, hb _ h.2.1 k.2.1⟩
  · exact ⟨p2, at_2, h.2.2.1, hb _ h.2.2.1 k.2.2.1⟩
  · exact ⟨p3, at_3, h.2.2.2.1, hb _ h.2.2.2.1 k.2.2.2.1⟩
  · exact ⟨p4, at_4, h.2.2.2.2, hb _ h.2.2.2.2 k.2.2.2.2⟩
theorem ix3_0 : ixN 3 0 = some 0 := rfl
theorem ix3_1 : ixN 3 1 = some 1 := rfl
theorem ix3_2 : ixN 3 2 = some 2 := rfl
theorem ix2_0 : ixN 2 0 = some 0 := rfl
theorem ix2_1 : ixN 2 1 = some 1 := rfl
/-! ### the list of drawn numbers, at n in the store -/
/-- at most t numbers were drawn -/
structure Pot (n t : Nat) (S : Sto) : Prop where
  at_ : ∃ a b c : Int, S[n]? = some (.lst [.int a, .int b, .int c]) ∧ (0 ≤ b ∧ b < 2 ^ 64) ∧ 0 ≤ c ∧ c ≤ t
  cl : ClS S
theorem Pot.mono {n t t' : Nat} {S : Sto} (h : Pot n t S) (ht : t ≤ t') : Pot n t' S := ⟨by
  obtain ⟨a, b, c, h1, h2, h3, h4⟩ := h.at_
  exact ⟨a, b, c, h1, h2, h3, by omega⟩, h.cl⟩
theorem Pot.set {n t : Nat} {S : Sto} (h : Pot n t S) {a b c : Int} (hb : 0 ≤ b ∧ b < 2 ^ 64) (hc : 0 ≤ c ∧ c ≤ t) : Pot n t (S.set n (.lst [.int a, .int b, .int c])) := ⟨⟨a, b, c, by
  obtain ⟨_, _, _, h1, _⟩ := h.at_
  rw [List.getElem?_set_self (List.getElem?_eq_some_iff.mp h1).1], hb, hc⟩, clS_set h.cl (clO_lst (cls_cons cl_int (cls_cons cl_int (cls_cons cl_int cls_nil))))⟩
/-- what a draw leaves -/
structure Drw (n t : Nat) (S S' : Sto) : Prop where
  po : Pot n t S'
  ln : S'.length = S.length
  ot : ∀ m, m ≠ n → S'[m]? = S[m]?
theorem Drw.refl {n t : Nat} {S : Sto} (h : Pot n t S) : Drw n t S S := ⟨h, rfl, fun _ _ => rfl⟩
theorem Drw.trans {n t t' : Nat} {S S' S2 : Sto} (h : Drw n t S S') (h2 : Drw n t' S' S2) : Drw n t' S S2 := ⟨h2.po, h2.ln.trans h.ln, fun m hm => (h2.ot m hm).trans (h.ot m hm)⟩
theorem Drw.mono {n t t' : Nat} {S S' : Sto} (h : Drw n t S S') (ht : t ≤ t') : Drw n t' S S' := ⟨h.po.mono ht, h.ln, h.ot⟩
theorem Drw.set {n t : Nat} {S : Sto} (h : Pot n t S) {a b c : Int} (hb : 0 ≤ b ∧ b < 2 ^ 64) (hc : 0 ≤ c ∧ c ≤ t) : Drw n t S (S.set n (.lst [.int a, .int b, .int c])) := ⟨h.set hb hc, by simp, fun m hm => by rw [List.getElem?_set_ne (fun e => hm e.symm)]⟩
end PS

namespace K37
open PySem PySem.Spec PyProof.Rows L2 PS
def top (i : Nat) : Stmt := PySem.Challenge.pw_rightbetween_k37_whole_merges_by_many_wa.main.body.getD i (.Pass ⟨0, 0, 0, 0⟩)
abbrev s7 : Stmt := top 7
abbrev s8 : Stmt := top 8
abbrev s14 : Stmt := top 14
abbrev s15 : Stmt := top 15
abbrev s16 : Stmt := top 16
abbrev s17 : Stmt := top 17
abbrev s18 : Stmt := top 18
abbrev s19 : Stmt := top 19
abbrev s20 : Stmt := top 20
abbrev s21 : Stmt := top 21
abbrev s22 : Stmt := top 22
abbrev s23 : Stmt := top 23
abbrev s24 : Stmt := top 24
abbrev s25 : Stmt := top 25
abbrev s26 : Stmt := top 26
abbrev s27_0 : Stmt := inClass (top 27) 0
abbrev s27_1 : Stmt := inClass (top 27) 1
abbrev s27_2 : Stmt := inClass (top 27) 2
abbrev s27_3 : Stmt := inClass (top 27) 3
abbrev s28 : Stmt := top 28
abbrev s29 : Stmt := top 29
abbrev s30 : Stmt := top 30
abbrev s31 : Stmt := top 31
abbrev s32 : Stmt := top 32
abbrev s33 : Stmt := top 33
abbrev s34 : Stmt := top 34
abbrev s36 : Stmt := top 36
abbrev s37 : Stmt := top 37
abbrev s38 : Stmt := top 38
abbrev s39 : Stmt := top 39
abbrev s40 : Stmt := top 40
abbrev s41 : Stmt := top 41
abbrev s42 : Stmt := top 42
abbrev s43 : Stmt := top 43
abbrev s44 : Stmt := top 44
abbrev s45 : Stmt := top 45
abbrev s46 : Stmt := top 46
abbrev s47 : Stmt := top 47
abbrev s48 : Stmt := top 48
abbrev s49 : Stmt := top 49
def fn0 : List He.DefD := [
  ⟨("is_integer", none), "is_integer", "is_integer", defArgs s7, defBody s7, defScope s7, [], []⟩,
  ⟨("is_between", none), "is_between", "is_between", defArgs s8, defBody s8, defScope s8, [], []⟩,
  ⟨("check_lengths", none), "check_lengths", "check_lengths", defArgs s14, defBody s14, defScope s14, [], []⟩,
  ⟨("told_merges", none), "told_merges", "told_merges", defArgs s15, defBody s15, defScope s15, [], []⟩,
  ⟨("merges", none), "merges", "merges", defArgs s16, defBody s16, defScope s16, [], []⟩,
  ⟨("is_merge_of", none), "is_merge_of", "is_merge_of", defArgs s17, defBody s17, defScope s17, [], []⟩,
  ⟨("spots_of", none), "spots_of", "spots_of", defArgs s18, defBody s18, defScope s18, [], []⟩,
  ⟨("is_less", none), "is_less", "is_less", defArgs s19, defBody s19, defScope s19, [], []⟩,
  ⟨("parted", none), "parted", "parted", defArgs s20, defBody s20, defScope s20, [], []⟩,
  ⟨("questions", none), "questions", "questions", defArgs s21, defBody s21, defScope s21, [], []⟩,
  ⟨("by_heads", none), "by_heads", "by_heads", defArgs s22, defBody s22, defScope s22, [], []⟩,
  ⟨("does_merge", none), "does_merge", "does_merge", defArgs s23, defBody s23, defScope s23, [], []⟩,
  ⟨("is_merging", none), "is_merging", "is_merging", defArgs s24, defBody s24, defScope s24, [], []⟩,
  ⟨("comparisons_to", none), "comparisons_to", "comparisons_to", defArgs s25, defBody s25, defScope s25, [], []⟩,
  ⟨("compared_by", none), "compared_by", "compared_by", defArgs s26, defBody s26, defScope s26, [], []⟩,
  ⟨("Mergers", some "__init__"), "__init__", "Mergers.__init__", defArgs s27_0, defBody s27_0, defScope s27_0, [], []⟩,
  ⟨("Mergers", some "best"), "best", "Mergers.best", defArgs s27_1, defBody s27_1, defScope s27_1, [], []⟩,
  ⟨("Mergers", some "number"), "number", "Mergers.number", defArgs s27_2, defBody s27_2, defScope s27_2, [], []⟩,
  ⟨("Mergers", some "tree"), "tree", "Mergers.tree", defArgs s27_3, defBody s27_3, defScope s27_3, [], []⟩,
  ⟨("check_both", none), "check_both", "check_both", defArgs s28, defBody s28, defScope s28, [], []⟩,
  ⟨("told_comparisons", none), "told_comparisons", "told_comparisons", defArgs s29, defBody s29, defScope s29, [], []⟩,
  ⟨("fewest_comparisons", none), "fewest_comparisons", "fewest_comparisons", defArgs s30, defBody s30, defScope s30, [], []⟩,
  ⟨("least_comparisons", none), "least_comparisons", "least_comparisons", defArgs s31, defBody s31, defScope s31, [], []⟩,
  ⟨("does_show_merging", none), "does_show_merging", "does_show_merging", defArgs s32, defBody s32, defScope s32, [], []⟩,
  ⟨("shows_fewest_comparisons", none), "shows_fewest_comparisons", "shows_fewest_comparisons", defArgs s33, defBody s33, defScope s33, [], []⟩,
  ⟨("shows_least_comparisons", none), "shows_least_comparisons", "shows_least_comparisons", defArgs s34, defBody s34, defScope s34, [], []⟩,
  ⟨("_law_take", none), "_law_take", "_law_take", defArgs s36, defBody s36, defScope s36, [], []⟩,
  ⟨("_law_of", none), "_law_of", "_law_of", defArgs s37, defBody s37, defScope s37, [], []⟩,
  ⟨("_law_some", none), "_law_some", "_law_some", defArgs s38, defBody s38, defScope s38, [], []⟩,
  ⟨("_law_cells", none), "_law_cells", "_law_cells", defArgs s39, defBody s39, defScope s39, [], []⟩,
  ⟨("_law_pot", none), "_law_pot", "_law_pot", defArgs s40, defBody s40, defScope s40, [], []⟩,
  ⟨("_law_merges", none), "_law_merges", "_law_merges", defArgs s41, defBody s41, defScope s41, [], []⟩,
  ⟨("_law_table", none), "_law_table", "_law_table", defArgs s42, defBody s42, defScope s42, [], []⟩,
  ⟨("_law_useful", none), "_law_useful", "_law_useful", defArgs s43, defBody s43, defScope s43, [], []⟩,
  ⟨("_law_asking", none), "_law_asking", "_law_asking", defArgs s44, defBody s44, defScope s44, [], []⟩,
  ⟨("_law_led", none), "_law_led", "_law_led", defArgs s45, defBody s45, defScope s45, [], []⟩,
  ⟨("_law_heads", none), "_law_heads", "_law_heads", defArgs s46, defBody s46, defScope s46, [], []⟩,
  ⟨("_law_bent", none), "_law_bent", "_law_bent", defArgs s47, defBody s47, defScope s47, [], []⟩,
  ⟨("_law_right", none), "_law_right", "_law_right", defArgs s48, defBody s48, defScope s48, [], []⟩,
  ⟨("law", none), "law", "law", defArgs s49, defBody s49, defScope s49, [], []⟩]
def fa0 : List He.Fa := [.glo "is_integer", .glo "is_between", .str "MERGED" "merged", .str "COMPARE" "compare", .int "MOST_EACH" 5, .int "MOST_BOTH" 8, .glo "check_lengths", .glo "told_merges", .glo "merges", .glo "is_merge_of", .glo "spots_of", .glo "is_less", .glo "parted", .glo "questions", .glo "by_heads", .glo "does_merge", .glo "is_merging", .glo "comparisons_to", .glo "compared_by", .glo "Mergers", .cls "Mergers", .mkr "Mergers", .noat "Mergers" "own_best", .noat "Mergers" "own_first", .noat "Mergers" "own_is_sum", .noat "Mergers" "own_second", .meth "Mergers" "best", .meth "Mergers" "number", .meth "Mergers" "tree", .glo "check_both", .glo "told_comparisons", .glo "fewest_comparisons", .glo "least_comparisons", .glo "does_show_merging", .glo "shows_fewest_comparisons", .glo "shows_least_comparisons", .glo "_law_take", .glo "_law_of", .glo "_law_some", .glo "_law_cells", .glo "_law_pot", .glo "_law_merges", .glo "_law_table", .glo "_law_useful", .glo "_law_asking", .glo "_law_led", .glo "_law_heads", .glo "_law_bent", .glo "_law_right", .glo "law", .free "abs", .free "all", .free "bool", .free "enumerate", .free "int", .free "isinstance", .free "len", .free "list", .free "max", .free "min", .free "range", .free "repr", .free "sorted", .free "str", .free "sum", .free "super", .free "tuple", .free "zip"]
/-- what the head tells -/
structure HF (K : PySem.W.Frag) (mg : Str → Option Value) (h : Heap) : Prop where
  kin : K.In h
  ns : h.Ns mainGlobals mg
  c : He.SaysD fa0 fn0 K
section
variable {K : PySem.W.Frag} {mg : Str → Option Value} {h : Heap}
theorem HF.m_is_integer (F : HF K mg h) : mg "is_integer" = some (.ref (He.ga K "is_integer")) := He.glo_ok F.kin F.ns (F.c.fact 0)
theorem HF.m_is_between (F : HF K mg h) : mg "is_between" = some (.ref (He.ga K "is_between")) := He.glo_ok F.kin F.ns (F.c.fact 1)
theorem HF.c_MERGED (F : HF K mg h) : ∃ t, mg "MERGED" = some (.str "merged" t) := He.str_ok F.kin F.ns (F.c.fact 2)
theorem HF.c_COMPARE (F : HF K mg h) : ∃ t, mg "COMPARE" = some (.str "compare" t) := He.str_ok F.kin F.ns (F.c.fact 3)
theorem HF.c_MOST_EACH (F : HF K mg h) : ∃ t, mg "MOST_EACH" = some (.int 5 t) := He.int_ok F.kin F.ns (F.c.fact 4)
theorem HF.c_MOST_BOTH (F : HF K mg h) : ∃ t, mg "MOST_BOTH" = some (.int 8 t) := He.int_ok F.kin F.ns (F.c.fact 5)
theorem HF.m_check_lengths (F : HF K mg h) : mg "check_lengths" = some (.ref (He.ga K "check_lengths")) := He.glo_ok F.kin F.ns (F.c.fact 6)
theorem HF.m_told_merges (F : HF K mg h) : mg "told_merges" = some (.ref (He.ga K "told_merges")) := He.glo_ok F.kin F.ns (F.c.fact 7)
theorem HF.m_merges (F : HF K mg h) : mg "merges" = some (.ref (He.ga K "merges")) := He.glo_ok F.kin F.ns (F.c.fact 8)
theorem HF.m_is_merge_of (F : HF K mg h) : mg "is_merge_of" = some (.ref (He.ga K "is_merge_of")) := He.glo_ok F.kin F.ns (F.c.fact 9)
theorem HF.m_spots_of (F : HF K mg h) : mg "spots_of" = some (.ref (He.ga K "spots_of")) := He.glo_ok F.kin F.ns (F.c.fact 10)
theorem HF.m_is_less (F : HF K mg h) : mg "is_less" = some (.ref (He.ga K "is_less")) := He.glo_ok F.kin F.ns (F.c.fact 11)
theorem HF.m_parted (F : HF K mg h) : mg "parted" = some (.ref (He.ga K "parted")) := He.glo_ok F.kin F.ns (F.c.fact 12)
theorem HF.m_questions (F : HF K mg h) : mg "questions" = some (.ref (He.ga K "questions")) := He.glo_ok F.kin F.ns (F.c.fact 13)
theorem HF.m_by_heads (F : HF K mg h) : mg "by_heads" = some (.ref (He.ga K "by_heads")) := He.glo_ok F.kin F.ns (F.c.fact 14)
theorem HF.m_does_merge (F : HF K mg h) : mg "does_merge" = some (.ref (He.ga K "does_merge")) := He.glo_ok F.kin F.ns (F.c.fact 15)
theorem HF.m_is_merging (F : HF K mg h) : mg "is_merging" = some (.ref (He.ga K "is_merging")) := He.glo_ok F.kin F.ns (F.c.fact 16)
theorem HF.m_comparisons_to (F : HF K mg h) : mg "comparisons_to" = some (.ref (He.ga K "comparisons_to")) := He.glo_ok F.kin F.ns (F.c.fact 17)
theorem HF.m_compared_by (F : HF K mg h) : mg "compared_by" = some (.ref (He.ga K "compared_by")) := He.glo_ok F.kin F.ns (F.c.fact 18)
theorem HF.m_Mergers (F : HF K mg h) : mg "Mergers" = some (.ref (He.ga K "Mergers")) := He.glo_ok F.kin F.ns (F.c.fact 19)
theorem HF.k_Mergers (F : HF K mg h) : Cls K (He.ga K "Mergers") := He.cls_ok (F.c.fact 20)
theorem HF.mk_Mergers (F : HF K mg h) : Mk K (He.ga K "Mergers") (He.ma K (He.ga K "Mergers") "__init__") := He.mkr_ok (F.c.fact 21)
theorem HF.m_check_both (F : HF K mg h) : mg "check_both" = some (.ref (He.ga K "check_both")) := He.glo_ok F.kin F.ns (F.c.fact 29)
theorem HF.m_told_comparisons (F : HF K mg h) : mg "told_comparisons" = some (.ref (He.ga K "told_comparisons")) := He.glo_ok F.kin F.ns (F.c.fact 30)
theorem HF.m_fewest_comparisons (F : HF K mg h) : mg "fewest_comparisons" = some (.ref (He.ga K "fewest_comparisons")) := He.glo_ok F.kin F.ns (F.c.fact 31)
theorem HF.m_least_comparisons (F : HF K mg h) : mg "least_comparisons" = some (.ref (He.ga K "least_comparisons")) := He.glo_ok F.kin F.ns (F.c.fact 32)
theorem HF.m_does_show_merging (F : HF K mg h) : mg "does_show_merging" = some (.ref (He.ga K "does_show_merging")) := He.glo_ok F.kin F.ns (F.c.fact 33)
theorem HF.m_shows_fewest_comparisons (F : HF K mg h) : mg "shows_fewest_comparisons" = some (.ref (He.ga K "shows_fewest_comparisons")) := He.glo_ok F.kin F.ns (F.c.fact 34)
theorem HF.m_shows_least_comparisons (F : HF K mg h) : mg "shows_least_comparisons" = some (.ref (He.ga K "shows_least_comparisons")) := He.glo_ok F.kin F.ns (F.c.fact 35)
theorem HF.m__law_take (F : HF K mg h) : mg "_law_take" = some (.ref (He.ga K "_law_take")) := He.glo_ok F.kin F.ns (F.c.fact 36)
theorem HF.m__law_of (F : HF K mg h) : mg "_law_of" = some (.ref (He.ga K "_law_of")) := He.glo_ok F.kin F.ns (F.c.fact 37)
theorem HF.m__law_some (F : HF K mg h) : mg "_law_some" = some (.ref (He.ga K "_law_some")) := He.glo_ok F.kin F.ns (F.c.fact 38)
theorem HF.m__law_cells (F : HF K mg h) : mg "_law_cells" = some (.ref (He.ga K "_law_cells")) := He.glo_ok F.kin F.ns (F.c.fact 39)
theorem HF.m__law_pot (F : HF K mg h) : mg "_law_pot" = some (.ref (He.ga K "_law_pot")) := He.glo_ok F.kin F.ns (F.c.fact 40)
theorem HF.m__law_merges (F : HF K mg h) : mg "_law_merges" = some (.ref (He.ga K "_law_merges")) := He.glo_ok F.kin F.ns (F.c.fact 41)
theorem HF.m__law_table (F : HF K mg h) : mg "_law_table" = some (.ref (He.ga K "_law_table")) := He.glo_ok F.kin F.ns (F.c.fact 42)
theorem HF.m__law_useful (F : HF K mg h) : mg "_law_useful" = some (.ref (He.ga K "_law_useful")) := He.glo_ok F.kin F.ns (F.c.fact 43)
theorem HF.m__law_asking (F : HF K mg h) : mg "_law_asking" = some (.ref (He.ga K "_law_asking")) := He.glo_ok F.kin F.ns (F.c.fact 44)
theorem HF.m__law_led (F : HF K mg h) : mg "_law_led" = some (.ref (He.ga K "_law_led")) := He.glo_ok F.kin F.ns (F.c.fact 45)
theorem HF.m__law_heads (F : HF K mg h) : mg "_law_heads" = some (.ref (He.ga K "_law_heads")) := He.glo_ok F.kin F.ns (F.c.fact 46)
theorem HF.m__law_bent (F : HF K mg h) : mg "_law_bent" = some (.ref (He.ga K "_law_bent")) := He.glo_ok F.kin F.ns (F.c.fact 47)
theorem HF.m__law_right (F : HF K mg h) : mg "_law_right" = some (.ref (He.ga K "_law_right")) := He.glo_ok F.kin F.ns (F.c.fact 48)
theorem HF.m_law (F : HF K mg h) : mg "law" = some (.ref (He.ga K "law")) := He.glo_ok F.kin F.ns (F.c.fact 49)
theorem HF.n_abs (F : HF K mg h) : mg "abs" = none := He.free_ok F.kin F.ns (F.c.fact 50)
theorem HF.n_all (F : HF K mg h) : mg "all" = none := He.free_ok F.kin F.ns (F.c.fact 51)
theorem HF.n_bool (F : HF K mg h) : mg "bool" = none := He.free_ok F.kin F.ns (F.c.fact 52)
theorem HF.n_enumerate (F : HF K mg h) : mg "enumerate" = none := He.free_ok F.kin F.ns (F.c.fact 53)
theorem HF.n_int (F : HF K mg h) : mg "int" = none := He.free_ok F.kin F.ns (F.c.fact 54)
theorem HF.n_isinstance (F : HF K mg h) : mg "isinstance" = none := He.free_ok F.kin F.ns (F.c.fact 55)
theorem HF.n_len (F : HF K mg h) : mg "len" = none := He.free_ok F.kin F.ns (F.c.fact 56)
theorem HF.n_list (F : HF K mg h) : mg "list" = none := He.free_ok F.kin F.ns (F.c.fact 57)
theorem HF.n_max (F : HF K mg h) : mg "max" = none := He.free_ok F.kin F.ns (F.c.fact 58)
theorem HF.n_min (F : HF K mg h) : mg "min" = none := He.free_ok F.kin F.ns (F.c.fact 59)
theorem HF.n_range (F : HF K mg h) : mg "range" = none := He.free_ok F.kin F.ns (F.c.fact 60)
theorem HF.n_repr (F : HF K mg h) : mg "repr" = none := He.free_ok F.kin F.ns (F.c.fact 61)
theorem HF.n_sorted (F : HF K mg h) : mg "sorted" = none := He.free_ok F.kin F.ns (F.c.fact 62)
theorem HF.n_str (F : HF K mg h) : mg "str" = none := He.free_ok F.kin F.ns (F.c.fact 63)
theorem HF.n_sum (F : HF K mg h) : mg "sum" = none := He.free_ok F.kin F.ns (F.c.fact 64)
theorem HF.n_super (F : HF K mg h) : mg "super" = none := He.free_ok F.kin F.ns (F.c.fact 65)
theorem HF.n_tuple (F : HF K mg h) : mg "tuple" = none := He.free_ok F.kin F.ns (F.c.fact 66)
theorem HF.n_zip (F : HF K mg h) : mg "zip" = none := He.free_ok F.kin F.ns (F.c.fact 67)
end
end K37

namespace K37
open PySem PySem.Spec PyProof.Rows L2 PS
noncomputable def b_is_integer : MS :=
  (sRet (vAnd (mIs PyData.isInt (pk 0)) (vNot (mIs PyData.isBool (pk 0)))))
noncomputable def f_is_integer : FD := (relF (runB 1 1 (b_is_integer)))
theorem sc_is_integer : FnScope ["value"] ["value"] (defScope s7) := ⟨rfl, rfl, rfl, by decide +kernel, rfl, by decide +kernel, by decide +kernel⟩
theorem ok_is_integer {P : Program} {w : World} {K : PySem.W.Frag} {mg : Str → Option Value} {base : Heap} (F : HF K mg base) : FOk P w K mg base 1 (He.fAd K ("is_integer", none)) ["value"] f_is_integer := FOk.rel (fok (k := 0) (F.c.def_ 0) sc_is_integer (fun _ _ _ _ _ _ us hl => match us, hl with | [_], _ => rfl) (fun cdv A outer s H E hr => by
  have hu := hr.units
  have hN := sc_is_integer.nd
  exact (ess_one (es_ret (ee_and (ee_is isT_int rfl (F.n_isinstance) (er_pk 0) rfl (F.n_int)) (ee_one (ee_not (ee_is isT_bool rfl (F.n_isinstance) (er_pk 0) rfl (F.n_bool)))))))))
noncomputable def b_is_between : MS :=
  (sRet (vAnd (mCall f_is_integer [] (aC (vr 0) aN)) (mCh gLe gLe (pk 1) (pk 0) (pk 2))))
noncomputable def f_is_between : FD := (relF (runB 3 3 (b_is_between)))
theorem sc_is_between : FnScope ["value", "least", "most"] ["value", "least", "most"] (defScope s8) := ⟨rfl, rfl, rfl, by decide +kernel, rfl, by decide +kernel, by decide +kernel⟩
theorem ok_is_between {P : Program} {w : World} {K : PySem.W.Frag} {mg : Str → Option Value} {base : Heap} (F : HF K mg base) : FOk P w K mg base 2 (He.fAd K ("is_between", none)) ["value", "least", "most"] f_is_between := FOk.rel (fok (k := 1) (F.c.def_ 1) sc_is_between (fun _ _ _ _ _ _ us hl => match us, hl with | [_, _, _], _ => rfl) (fun cdv A outer s H E hr => by
  have hu := hr.units
  have hN := sc_is_between.nd
  exact (ess_one (es_ret (ee_and (ee_F (ok_is_integer F) hr (by omega) rfl (F.m_is_integer) (ea_cons (ee_vr 0) ea_nil)) (ee_one (ee_ch o_le o_le (er_pk 1) (er_pk 0) (er_pk 2))))))))
noncomputable def b_check_lengths : MS :=
  (sFor (iV (nTup (aC (vr 0) (aC (vr 1) aN)))) (gN 2) (sIf (tNot (mB (mCall f_is_between [] (aC (vr 2) (aC (cs (.int 0)) (aC (cs (.int 5)) aN)))))) sNo sNx))
noncomputable def f_check_lengths : FD := (relF (runB 2 3 (b_check_lengths)))
theorem sc_check_lengths : FnScope ["first", "second", "number"] ["first", "second"] (defScope s14) := ⟨rfl, rfl, rfl, by decide +kernel, rfl, by decide +kernel, by decide +kernel⟩
theorem ok_check_lengths {P : Program} {w : World} {K : PySem.W.Frag} {mg : Str → Option Value} {base : Heap} (F : HF K mg base) : FOk P w K mg base 3 (He.fAd K ("check_lengths", none)) ["first", "second"] f_check_lengths := FOk.rel (fok (k := 2) (F.c.def_ 2) sc_check_lengths (fun _ _ _ _ _ _ us hl => match us, hl with | [_, _], _ => rfl) (fun cdv A outer s H E hr => by
  have hu := hr.units
  have hN := sc_check_lengths.nd
  exact (ess_one (es_for owns rfl (ei_v (ee_tup (ea_cons (ee_vr 0) (ea_cons (ee_vr 1) ea_nil)))) (eg_n 2 hN)
    (ess_one (es_if (et_not (et_val (ee_F (ok_is_between F) hr (by omega) rfl (F.m_is_between) (ea_cons (ee_vr 2) (ea_cons ee_int (ea_cons (ee_gI rfl (F.c_MOST_EACH)) ea_nil))))))
    (ess_one es_no)
    ess_nil))))))
noncomputable def b_told_merges : MS :=
  (sSeq (sOwn 2 (nLst (aC (nTup aN) aN))) (sSeq (sFor (iR1 (aC (m2 gAdd (pk 0) (pk 1)) aN)) (gN 3) (sSeq (sOwn 4 (nLst aN)) (sSeq (sFor (iV (vr 2)) (gN 5) (sSeq (sIf (mB (m2 gLt (oD (mMt2 kL kT (fSame false (fFind iCnt)) (fSame true (fFind iCnt)) (pk 5) (aC (cs (.int 0)) aN))) (pk 0))) (sDrop (mMt kL fAppend (pk 4) (aC (nTup (aS (pk 5) (aC (cs (.int 0)) aN))) aN))) sNx) (sIf (mB (m2 gLt (oD (mMt2 kL kT (fSame false (fFind iCnt)) (fSame true (fFind iCnt)) (pk 5) (aC (cs (.int 1)) aN))) (pk 1))) (sDrop (mMt kL fAppend (pk 4) (aC (nTup (aS (pk 5) (aC (cs (.int 1)) aN))) aN))) sNx))) (sSet 2 (vr 4))))) (sRet (mCb gTuple (aC (oD (nFz (nCb gSrt (aC (pk 2) aN)))) aN)))))
noncomputable def f_told_merges : FD := (relF (runB 2 6 (b_told_merges)))
theorem sc_told_merges : FnScope ["first", "second", "found", "lap", "longer", "merge"] ["first", "second"] (defScope s15) := ⟨rfl, rfl, rfl, by decide +kernel, rfl, by decide +kernel, by decide +kernel⟩
theorem ok_told_merges {P : Program} {w : World} {K : PySem.W.Frag} {mg : Str → Option Value} {base : Heap} (F : HF K mg base) : FOk P w K mg base 1 (He.fAd K ("told_merges", none)) ["first", "second"] f_told_merges := FOk.rel (fok (k := 0) (F.c.def_ 3) sc_told_merges (fun _ _ _ _ _ _ us hl => match us, hl with | [_, _], _ => rfl) (fun cdv A outer s H E hr => by
  have hu := hr.units
  have hN := sc_told_merges.nd
  exact (ess_cons (es_own 2 hN (en_lst (ea_cons (ee_tup ea_nil) ea_nil)))
    (ess_cons (es_for owns rfl (ei_r1 rfl F.n_range (ea_cons (ee_op o_add (er_pk 0) (er_pk 1)) ea_nil)) (eg_n 3 hN)
    (ess_cons (es_own 4 hN (en_lst ea_nil))
    (ess_cons (es_for owns rfl (ei_v (ee_vr 2)) (eg_n 5 hN)
    (ess_cons (es_if (et_cmp o_lt (er_of (ee_mt2 (ms_countL hu) (ms_countT hu) (er_pk 5) (ea_cons ee_int ea_nil))) (er_pk 0))
    (ess_one (es_expr (ee_mt ms_append (er_pk 4) (ea_cons (ee_tup (ea_star (er_pk 5) (ea_cons ee_int ea_nil))) ea_nil))))
    ess_nil)
    (ess_one (es_if (et_cmp o_lt (er_of (ee_mt2 (ms_countL hu) (ms_countT hu) (er_pk 5) (ea_cons ee_int ea_nil))) (er_pk 1))
    (ess_one (es_expr (ee_mt ms_append (er_pk 4) (ea_cons (ee_tup (ea_star (er_pk 5) (ea_cons ee_int ea_nil))) ea_nil))))
    ess_nil))))
    (ess_one (es_set 2 hN (ee_vr 4))))))
    (ess_one (es_ret (ee_cbT cb_tuple rfl F.n_tuple (eb_cons (er_of (ee_fz (en_cb (co_srt rfl hu) rfl F.n_sorted (eb_cons (er_pk 2) eb_nil)))) eb_nil))))))))
noncomputable def b_merges : MS :=
  (sSeq (sDrop (mCall f_check_lengths [] (aC (vr 0) (aC (vr 1) aN)))) (sRet (mCall f_told_merges [] (aC (vr 0) (aC (vr 1) aN)))))
noncomputable def f_merges : FD := (relF (runB 2 2 (b_merges)))
theorem sc_merges : FnScope ["first", "second"] ["first", "second"] (defScope s16) := ⟨rfl, rfl, rfl, by decide +kernel, rfl, by decide +kernel, by decide +kernel⟩
theorem ok_merges {P : Program} {w : World} {K : PySem.W.Frag} {mg : Str → Option Value} {base : Heap} (F : HF K mg base) : FOk P w K mg base 4 (He.fAd K ("merges", none)) ["first", "second"] f_merges := FOk.rel (fok (k := 3) (F.c.def_ 4) sc_merges (fun _ _ _ _ _ _ us hl => match us, hl with | [_, _], _ => rfl) (fun cdv A outer s H E hr => by
  have hu := hr.units
  have hN := sc_merges.nd
  exact (ess_cons (es_expr (ee_F (ok_check_lengths F) hr (by omega) rfl (F.m_check_lengths) (ea_cons (ee_vr 0) (ea_cons (ee_vr 1) ea_nil))))
    (ess_one (es_ret (ee_F (ok_told_merges F) hr (by omega) rfl (F.m_told_merges) (ea_cons (ee_vr 0) (ea_cons (ee_vr 1) ea_nil))))))))
noncomputable def b_is_merge_of : MS :=
  (sSeq (sIf (tOr (tNot (mB (mIs PyData.isTuple (pk 2)))) (tNot (mB (mCb (gAll false) (aC (oD (nFz (nLc (iV (vr 2)) (gN 3) tYs (vAnd (mCall f_is_integer [] (aC (vr 3) aN)) (mCh gLe gLe (oD (cs (.int 0))) (pk 3) (oD (cs (.int 1))))) [3]))) aN))))) (sRet (cs (.bl false))) sNx) (sRet (vAnd (m2 (gEq false) (oD (mMt2 kL kT (fSame false (fFind iCnt)) (fSame true (fFind iCnt)) (pk 2) (aC (cs (.int 0)) aN))) (pk 0)) (m2 (gEq false) (oD (mMt2 kL kT (fSame false (fFind iCnt)) (fSame true (fFind iCnt)) (pk 2) (aC (cs (.int 1)) aN))) (pk 1)))))
noncomputable def f_is_merge_of : FD := (relF (runB 3 4 (b_is_merge_of)))
theorem sc_is_merge_of : FnScope ["first", "second", "value", "row"] ["first", "second", "value"] (defScope s17) := ⟨rfl, rfl, rfl, by decide +kernel, rfl, by decide +kernel, by decide +kernel⟩
theorem ok_is_merge_of {P : Program} {w : World} {K : PySem.W.Frag} {mg : Str → Option Value} {base : Heap} (F : HF K mg base) : FOk P w K mg base 2 (He.fAd K ("is_merge_of", none)) ["first", "second", "value"] f_is_merge_of := FOk.rel (fok (k := 1) (F.c.def_ 5) sc_is_merge_of (fun _ _ _ _ _ _ us hl => match us, hl with | [_, _, _], _ => rfl) (fun cdv A outer s H E hr => by
  have hu := hr.units
  have hN := sc_is_merge_of.nd
  exact (ess_cons (es_if (et_w (ew_or (et_not (et_val (ee_is isT_tuple rfl (F.n_isinstance) (er_pk 2) rfl (F.n_tuple)))) (ew_or1 (et_not (et_val (ee_cb (cb_all rfl) rfl F.n_all (eb_cons (er_of (ee_fz (en_lc (own := [("row", 3)]) rfl hN (ei_v (ee_vr 2)) (blkOk_by (N := ["first", "second", "value", "row"]) (sc := (defScope s17)) (own := [("row", 3)]) (by decide +kernel)) (fun _ _ _ _ _ => (eg_n 3 hN)) (fun _ _ _ _ _ => ets_nil) (fun _ _ _ _ _ => (ee_and (ee_F (ok_is_integer F) hr (by omega) rfl (F.m_is_integer) (ea_cons (ee_vr 3) ea_nil)) (ee_one (ee_ch o_le o_le (er_of ee_int) (er_pk 3) (er_of ee_int)))))))) eb_nil)))))))
    (ess_one (es_ret ee_bl))
    ess_nil)
    (ess_one (es_ret (ee_and (ee_cmp (o_eq hu) (er_of (ee_mt2 (ms_countL hu) (ms_countT hu) (er_pk 2) (ea_cons ee_int ea_nil))) (er_pk 0)) (ee_one (ee_cmp (o_eq hu) (er_of (ee_mt2 (ms_countL hu) (ms_countT hu) (er_pk 2) (ea_cons ee_int ea_nil))) (er_pk 1)))))))))
noncomputable def b_spots_of : MS :=
  (sRet (nFz (nLc (iEnA (vr 0)) (gT 2 (gsC (gN 2) (gsC (gN 3) gsN))) (mB (m2 (gEq false) (pk 3) (pk 1))) (vr 2) [2, 3])))
noncomputable def f_spots_of : FD := (relF (runB 2 4 (b_spots_of)))
theorem sc_spots_of : FnScope ["merge", "row", "at", "its"] ["merge", "row"] (defScope s18) := ⟨rfl, rfl, rfl, by decide +kernel, rfl, by decide +kernel, by decide +kernel⟩
theorem ok_spots_of {P : Program} {w : World} {K : PySem.W.Frag} {mg : Str → Option Value} {base : Heap} (F : HF K mg base) : FOk P w K mg base 1 (He.fAd K ("spots_of", none)) ["merge", "row"] f_spots_of := FOk.rel (fok (k := 0) (F.c.def_ 6) sc_spots_of (fun _ _ _ _ _ _ us hl => match us, hl with | [_, _], _ => rfl) (fun cdv A outer s H E hr => by
  have hu := hr.units
  have hN := sc_spots_of.nd
  exact (ess_one (es_ret (ee_fz (en_lc (own := [("at", 2), ("its", 3)]) rfl hN (ei_enA rfl F.n_enumerate (ee_vr 0)) (blkOk_by (N := ["merge", "row", "at", "its"]) (sc := (defScope s18)) (own := [("at", 2), ("its", 3)]) (by decide +kernel)) (fun _ _ _ _ _ => (eg_t rfl (egs_cons (eg_n 2 hN) (egs_cons (eg_n 3 hN) egs_nil)))) (fun _ _ _ _ _ => (ets_one (et_cmp (o_eq hu) (er_pk 3) (er_pk 1)))) (fun _ _ _ _ _ => (ee_vr 2))))))))
noncomputable def b_is_less : MS :=
  (sRet (m2 gLt (oD (m2 gIx (oD (mCall f_spots_of [] (aC (vr 0) (aC (cs (.int 0)) aN)))) (pk 1))) (oD (m2 gIx (oD (mCall f_spots_of [] (aC (vr 0) (aC (cs (.int 1)) aN)))) (pk 2)))))
noncomputable def f_is_less : FD := (relF (runB 3 3 (b_is_less)))
theorem sc_is_less : FnScope ["merge", "at", "to"] ["merge", "at", "to"] (defScope s19) := ⟨rfl, rfl, rfl, by decide +kernel, rfl, by decide +kernel, by decide +kernel⟩
theorem ok_is_less {P : Program} {w : World} {K : PySem.W.Frag} {mg : Str → Option Value} {base : Heap} (F : HF K mg base) : FOk P w K mg base 2 (He.fAd K ("is_less", none)) ["merge", "at", "to"] f_is_less := FOk.rel (fok (k := 1) (F.c.def_ 7) sc_is_less (fun _ _ _ _ _ _ us hl => match us, hl with | [_, _, _], _ => rfl) (fun cdv A outer s H E hr => by
  have hu := hr.units
  have hN := sc_is_less.nd
  exact (ess_one (es_ret (ee_cmp o_lt (er_of (ee_ix hu (er_of (ee_F (ok_spots_of F) hr (by omega) rfl (F.m_spots_of) (ea_cons (ee_vr 0) (ea_cons ee_int ea_nil)))) (er_pk 1))) (er_of (ee_ix hu (er_of (ee_F (ok_spots_of F) hr (by omega) rfl (F.m_spots_of) (ea_cons (ee_vr 0) (ea_cons ee_int ea_nil)))) (er_pk 2))))))))
noncomputable def b_parted : MS :=
  (sSeq (sOwn 3 (nLc (iV (vr 0)) (gN 4) (mB (mCall f_is_less [] (aC (vr 4) (aC (vr 1) (aC (vr 2) aN))))) (vr 4) [4])) (sRet (nTup (aC (mCb gTuple (aC (pk 3) aN)) (aC (mCb gTuple (aC (oD (nFz (nLc (iV (vr 0)) (gN 4) (mB (m2 (gIn true) (pk 4) (pk 3))) (vr 4) [4]))) aN)) aN)))))
noncomputable def f_parted : FD := (relF (runB 3 5 (b_parted)))
theorem sc_parted : FnScope ["some", "at", "to", "less", "merge"] ["some", "at", "to"] (defScope s20) := ⟨rfl, rfl, rfl, by decide +kernel, rfl, by decide +kernel, by decide +kernel⟩
theorem ok_parted {P : Program} {w : World} {K : PySem.W.Frag} {mg : Str → Option Value} {base : Heap} (F : HF K mg base) : FOk P w K mg base 3 (He.fAd K ("parted", none)) ["some", "at", "to"] f_parted := FOk.rel (fok (k := 2) (F.c.def_ 8) sc_parted (fun _ _ _ _ _ _ us hl => match us, hl with | [_, _, _], _ => rfl) (fun cdv A outer s H E hr => by
  have hu := hr.units
  have hN := sc_parted.nd
  exact (ess_cons (es_own 3 hN (en_lc (own := [("merge", 4)]) rfl hN (ei_v (ee_vr 0)) (blkOk_by (N := ["some", "at", "to", "less", "merge"]) (sc := (defScope s20)) (own := [("merge", 4)]) (by decide +kernel)) (fun _ _ _ _ _ => (eg_n 4 hN)) (fun _ _ _ _ _ => (ets_one (et_val (ee_F (ok_is_less F) hr (by omega) rfl (F.m_is_less) (ea_cons (ee_vr 4) (ea_cons (ee_vr 1) (ea_cons (ee_vr 2) ea_nil))))))) (fun _ _ _ _ _ => (ee_vr 4))))
    (ess_one (es_ret (ee_tup (ea_cons (ee_cbT cb_tuple rfl F.n_tuple (eb_cons (er_pk 3) eb_nil)) (ea_cons (ee_cbT cb_tuple rfl F.n_tuple (eb_cons (er_of (ee_fz (en_lc (own := [("merge", 4)]) rfl hN (ei_v (ee_vr 0)) (blkOk_by (N := ["some", "at", "to", "less", "merge"]) (sc := (defScope s20)) (own := [("merge", 4)]) (by decide +kernel)) (fun _ _ _ _ _ => (eg_n 4 hN)) (fun _ _ _ _ _ => (ets_one (et_cmp (o_nin hu) (er_pk 4) (er_pk 3)))) (fun _ _ _ _ _ => (ee_vr 4))))) eb_nil)) ea_nil))))))))
noncomputable def b_questions : MS :=
  (sSeq (sOwn 3 (nLst aN)) (sSeq (sFor (iR1 (aC (vr 0) aN)) (gN 4) (sFor (iR1 (aC (vr 1) aN)) (gN 5) (sSeq (sAsg (mCall f_parted [] (aC (vr 2) (aC (vr 4) (aC (vr 5) aN)))) (gT 2 (gsC (gN 6) (gsC (gN 7) gsN)))) (sIf (tAnd (mB (m2 (gEq true) (pk 6) (oD (nTup aN)))) (mB (m2 (gEq true) (pk 7) (oD (nTup aN))))) (sDrop (mMt kL fAppend (pk 3) (aC (nTup (aC (vr 4) (aC (vr 5) (aC (vr 6) (aC (vr 7) aN))))) aN))) sNx)))) (sRet (vr 3))))
noncomputable def f_questions : FD := (relF (runB 3 8 (b_questions)))
theorem sc_questions : FnScope ["first", "second", "some", "found", "at", "to", "less", "more"] ["first", "second", "some"] (defScope s21) := ⟨rfl, rfl, rfl, by decide +kernel, rfl, by decide +kernel, by decide +kernel⟩
theorem ok_questions {P : Program} {w : World} {K : PySem.W.Frag} {mg : Str → Option Value} {base : Heap} (F : HF K mg base) : FOk P w K mg base 4 (He.fAd K ("questions", none)) ["first", "second", "some"] f_questions := FOk.rel (fok (k := 3) (F.c.def_ 9) sc_questions (fun _ _ _ _ _ _ us hl => match us, hl with | [_, _, _], _ => rfl) (fun cdv A outer s H E hr => by
  have hu := hr.units
  have hN := sc_questions.nd
  exact (ess_cons (es_own 3 hN (en_lst ea_nil))
    (ess_cons (es_for owns rfl (ei_r1 rfl F.n_range (ea_cons (ee_vr 0) ea_nil)) (eg_n 4 hN)
    (ess_one (es_for owns rfl (ei_r1 rfl F.n_range (ea_cons (ee_vr 1) ea_nil)) (eg_n 5 hN)
    (ess_cons (es_asg (ee_F (ok_parted F) hr (by omega) rfl (F.m_parted) (ea_cons (ee_vr 2) (ea_cons (ee_vr 4) (ea_cons (ee_vr 5) ea_nil)))) (eg_t rfl (egs_cons (eg_n 6 hN) (egs_cons (eg_n 7 hN) egs_nil))))
    (ess_one (es_if (et_w (ew_and (et_cmp (o_ne hu) (er_pk 6) (er_of (ee_tup ea_nil))) (ew_and1 (et_cmp (o_ne hu) (er_pk 7) (er_of (ee_tup ea_nil))))))
    (ess_one (es_expr (ee_mt ms_append (er_pk 3) (ea_cons (ee_tup (ea_cons (ee_vr 4) (ea_cons (ee_vr 5) (ea_cons (ee_vr 6) (ea_cons (ee_vr 7) ea_nil))))) ea_nil))))
    ess_nil))))))
    (ess_one (es_ret (ee_vr 3)))))))
noncomputable def b_by_heads : MS :=
  (sSeq (sDrop (mCall f_check_lengths [] (aC (vr 0) (aC (vr 1) aN)))) (sSeq (sIf (tNot (mB (mCall f_is_merge_of [] (aC (vr 0) (aC (vr 1) (aC (vr 2) aN)))))) sNo sNx) (sSeq (sParA [4, 5, 6] (avV (cs (.int 0)) (avV (cs (.int 0)) (avO (nLst aN) avN)))) (sSeq (sFor (iV (vr 2)) (gN 3) (sSeq (sIf (tAnd (mB (m2 gLt (pk 4) (pk 0))) (mB (m2 gLt (pk 5) (pk 1)))) (sDrop (mMt kL fAppend (pk 6) (aC (nTup (aC (vr 4) (aC (vr 5) (aC (vIf (mB (m2 (gEq false) (pk 3) (oD (cs (.int 0))))) (m1 gNeg (oD (cs (.int 1)))) (cs (.int 1))) aN)))) aN))) sNx) (sAsg (vIf (mB (m2 (gEq false) (pk 3) (oD (cs (.int 0))))) (nTup (aC (m2 gAdd (pk 4) (oD (cs (.int 1)))) (aC (vr 5) aN))) (nTup (aC (vr 4) (aC (m2 gAdd (pk 5) (oD (cs (.int 1)))) aN)))) (gT 2 (gsC (gN 4) (gsC (gN 5) gsN)))))) (sRet (mCb gTuple (aC (pk 6) aN)))))))
noncomputable def f_by_heads : FD := (relF (runB 3 7 (b_by_heads)))
theorem sc_by_heads : FnScope ["first", "second", "merge", "row", "at", "to", "found"] ["first", "second", "merge"] (defScope s22) := ⟨rfl, rfl, rfl, by decide +kernel, rfl, by decide +kernel, by decide +kernel⟩
theorem ok_by_heads {P : Program} {w : World} {K : PySem.W.Frag} {mg : Str → Option Value} {base : Heap} (F : HF K mg base) : FOk P w K mg base 4 (He.fAd K ("by_heads", none)) ["first", "second", "merge"] f_by_heads := FOk.rel (fok (k := 3) (F.c.def_ 10) sc_by_heads (fun _ _ _ _ _ _ us hl => match us, hl with | [_, _, _], _ => rfl) (fun cdv A outer s H E hr => by
  have hu := hr.units
  have hN := sc_by_heads.nd
  exact (ess_cons (es_expr (ee_F (ok_check_lengths F) hr (by omega) rfl (F.m_check_lengths) (ea_cons (ee_vr 0) (ea_cons (ee_vr 1) ea_nil))))
    (ess_cons (es_if (et_not (et_val (ee_F (ok_is_merge_of F) hr (by omega) rfl (F.m_is_merge_of) (ea_cons (ee_vr 0) (ea_cons (ee_vr 1) (ea_cons (ee_vr 2) ea_nil))))))
    (ess_one es_no)
    ess_nil)
    (ess_cons (es_par3 4 5 6 rfl hN (ev_v ee_int (ev_v ee_int (ev_o (en_lst ea_nil) ev_nil))))
    (ess_cons (es_for owns rfl (ei_v (ee_vr 2)) (eg_n 3 hN)
    (ess_cons (es_if (et_w (ew_and (et_cmp o_lt (er_pk 4) (er_pk 0)) (ew_and1 (et_cmp o_lt (er_pk 5) (er_pk 1)))))
    (ess_one (es_expr (ee_mt ms_append (er_pk 6) (ea_cons (ee_tup (ea_cons (ee_vr 4) (ea_cons (ee_vr 5) (ea_cons (ee_if (et_cmp (o_eq hu) (er_pk 3) (er_of ee_int)) (ee_un o_neg (er_of ee_int)) ee_int) ea_nil)))) ea_nil))))
    ess_nil)
    (ess_one (es_asg (ee_if (et_cmp (o_eq hu) (er_pk 3) (er_of ee_int)) (ee_tup (ea_cons (ee_op o_add (er_pk 4) (er_of ee_int)) (ea_cons (ee_vr 5) ea_nil))) (ee_tup (ea_cons (ee_vr 4) (ea_cons (ee_op o_add (er_pk 5) (er_of ee_int)) ea_nil)))) (eg_t rfl (egs_cons (eg_n 4 hN) (egs_cons (eg_n 5 hN) egs_nil)))))))
    (ess_one (es_ret (ee_cbT cb_tuple rfl F.n_tuple (eb_cons (er_pk 6) eb_nil))))))))))
noncomputable def b_does_merge (g : FD) : MS :=
  (sSeq (sIf (tOr (tNot (mB (mIs PyData.isTuple (pk 2)))) (tOr (mB (m2 (gEq false) (pk 2) (oD (nTup aN)))) (tNot (mB (mIs PyData.isStr (oD (m2 gIx (pk 2) (oD (cs (.int 0)))))))))) (sRet (cs (.bl false))) sNx) (sSeq (sIf (mB (m2 (gEq false) (oD (m2 gIx (pk 2) (oD (cs (.int 0))))) (oD (cs (.str "merged"))))) (sRet (vAnd (m2 (gEq false) (oD (mCb gLen (aC (pk 2) aN))) (oD (cs (.int 2)))) (vAnd (m2 (gEq false) (oD (mCb gLen (aC (pk 3) aN))) (oD (cs (.int 1)))) (vAnd (mCall f_is_merge_of [] (aC (vr 0) (aC (vr 1) (aC (m2 gIx (pk 2) (oD (cs (.int 1)))) aN)))) (m2 (gEq false) (oD (m2 gIx (pk 2) (oD (cs (.int 1))))) (oD (m2 gIx (pk 3) (oD (cs (.int 0)))))))))) sNx) (sSeq (sIf (tOr (mB (m2 (gEq true) (oD (m2 gIx (pk 2) (oD (cs (.int 0))))) (oD (cs (.str "compare"))))) (mB (m2 (gEq true) (oD (mCb gLen (aC (pk 2) aN))) (oD (cs (.int 5)))))) (sRet (cs (.bl false))) sNx) (sSeq (sIf (tOr (tNot (mB (mCall f_is_between [] (aC (m2 gIx (pk 2) (oD (cs (.int 1)))) (aC (cs (.int 0)) (aC (m2 gSub (pk 0) (oD (cs (.int 1)))) aN)))))) (tNot (mB (mCall f_is_between [] (aC (m2 gIx (pk 2) (oD (cs (.int 2)))) (aC (cs (.int 0)) (aC (m2 gSub (pk 1) (oD (cs (.int 1)))) aN))))))) (sRet (cs (.bl false))) sNx) (sSeq (sAsg (mCall f_parted [] (aC (vr 3) (aC (m2 gIx (pk 2) (oD (cs (.int 1)))) (aC (m2 gIx (pk 2) (oD (cs (.int 2)))) aN)))) (gT 2 (gsC (gN 4) (gsC (gN 5) gsN)))) (sSeq (sIf (tOr (mB (m2 (gEq false) (pk 4) (oD (nTup aN)))) (mB (m2 (gEq false) (pk 5) (oD (nTup aN))))) (sRet (cs (.bl false))) sNx) (sRet (vAnd (mCall g [] (aC (vr 0) (aC (vr 1) (aC (m2 gIx (pk 2) (oD (cs (.int 3)))) (aC (vr 4) aN))))) (mCall g [] (aC (vr 0) (aC (vr 1) (aC (m2 gIx (pk 2) (oD (cs (.int 4)))) (aC (vr 5) aN)))))))))))))
noncomputable def f_does_merge : Nat → FD
  | 0 => fun _ _ => none
  | n + 1 => (relF (runB 4 6 (b_does_merge (f_does_merge n))))
theorem sc_does_merge : FnScope ["first", "second", "value", "some", "less", "more"] ["first", "second", "value", "some"] (defScope s23) := ⟨rfl, rfl, rfl, by decide +kernel, rfl, by decide +kernel, by decide +kernel⟩
theorem ok_does_merge {P : Program} {w : World} {K : PySem.W.Frag} {mg : Str → Option Value} {base : Heap} (F : HF K mg base) : ∀ n, FOk P w K mg base (4 + n) (He.fAd K ("does_merge", none)) ["first", "second", "value", "some"] (f_does_merge n)
  | 0 => fok0 (F.c.def_ 11) (fun _ _ _ _ _ _ us hl => match us, hl with | [_, _, _, _], _ => rfl)
  | n + 1 => by
    have hg := ok_does_merge (P := P) (w := w) F n
    exact FOk.rel (fok (k := 4 + n) (F.c.def_ 11) sc_does_merge (fun _ _ _ _ _ _ us hl => match us, hl with | [_, _, _, _], _ => rfl) (fun cdv A outer s H E hr => by
        have hu := hr.units
        have hN := sc_does_merge.nd
        exact (ess_cons (es_if (et_w (ew_or (et_not (et_val (ee_is isT_tuple rfl (F.n_isinstance) (er_pk 2) rfl (F.n_tuple)))) (ew_or (et_cmp (o_eq hu) (er_pk 2) (er_of (ee_tup ea_nil))) (ew_or1 (et_not (et_val (ee_is isT_str rfl (F.n_isinstance) (er_of (ee_ix hu (er_pk 2) (er_of ee_int))) rfl (F.n_str))))))))
          (ess_one (es_ret ee_bl))
          ess_nil)
          (ess_cons (es_if (et_cmp (o_eq hu) (er_of (ee_ix hu (er_pk 2) (er_of ee_int))) (er_of (ee_gS rfl (F.c_MERGED))))
          (ess_one (es_ret (ee_and (ee_cmp (o_eq hu) (er_of (ee_cb cb_len rfl F.n_len (eb_cons (er_pk 2) eb_nil))) (er_of ee_int)) (ee_and (ee_cmp (o_eq hu) (er_of (ee_cb cb_len rfl F.n_len (eb_cons (er_pk 3) eb_nil))) (er_of ee_int)) (ee_and (ee_F (ok_is_merge_of F) hr (by omega) rfl (F.m_is_merge_of) (ea_cons (ee_vr 0) (ea_cons (ee_vr 1) (ea_cons (ee_ix hu (er_pk 2) (er_of ee_int)) ea_nil)))) (ee_one (ee_cmp (o_eq hu) (er_of (ee_ix hu (er_pk 2) (er_of ee_int))) (er_of (ee_ix hu (er_pk 3) (er_of ee_int))))))))))
          ess_nil)
          (ess_cons (es_if (et_w (ew_or (et_cmp (o_ne hu) (er_of (ee_ix hu (er_pk 2) (er_of ee_int))) (er_of (ee_gS rfl (F.c_COMPARE)))) (ew_or1 (et_cmp (o_ne hu) (er_of (ee_cb cb_len rfl F.n_len (eb_cons (er_pk 2) eb_nil))) (er_of ee_int)))))
          (ess_one (es_ret ee_bl))
          ess_nil)
          (ess_cons (es_if (et_w (ew_or (et_not (et_val (ee_F (ok_is_between F) hr (by omega) rfl (F.m_is_between) (ea_cons (ee_ix hu (er_pk 2) (er_of ee_int)) (ea_cons ee_int (ea_cons (ee_op o_sub (er_pk 0) (er_of ee_int)) ea_nil)))))) (ew_or1 (et_not (et_val (ee_F (ok_is_between F) hr (by omega) rfl (F.m_is_between) (ea_cons (ee_ix hu (er_pk 2) (er_of ee_int)) (ea_cons ee_int (ea_cons (ee_op o_sub (er_pk 1) (er_of ee_int)) ea_nil)))))))))
          (ess_one (es_ret ee_bl))
          ess_nil)
          (ess_cons (es_asg (ee_F (ok_parted F) hr (by omega) rfl (F.m_parted) (ea_cons (ee_vr 3) (ea_cons (ee_ix hu (er_pk 2) (er_of ee_int)) (ea_cons (ee_ix hu (er_pk 2) (er_of ee_int)) ea_nil)))) (eg_t rfl (egs_cons (eg_n 4 hN) (egs_cons (eg_n 5 hN) egs_nil))))
          (ess_cons (es_if (et_w (ew_or (et_cmp (o_eq hu) (er_pk 4) (er_of (ee_tup ea_nil))) (ew_or1 (et_cmp (o_eq hu) (er_pk 5) (er_of (ee_tup ea_nil))))))
          (ess_one (es_ret ee_bl))
          ess_nil)
          (ess_one (es_ret (ee_and (ee_F hg hr (by omega) rfl (F.m_does_merge) (ea_cons (ee_vr 0) (ea_cons (ee_vr 1) (ea_cons (ee_ix hu (er_pk 2) (er_of ee_int)) (ea_cons (ee_vr 4) ea_nil))))) (ee_one (ee_F hg hr (by omega) rfl (F.m_does_merge) (ea_cons (ee_vr 0) (ea_cons (ee_vr 1) (ea_cons (ee_ix hu (er_pk 2) (er_of ee_int)) (ea_cons (ee_vr 5) ea_nil)))))))))))))))))
noncomputable def b_is_merging : MS :=
  (sSeq (sDrop (mCall f_check_lengths [] (aC (vr 0) (aC (vr 1) aN)))) (sRet (mCall (f_does_merge 40) [] (aC (vr 0) (aC (vr 1) (aC (vr 2) (aC (mCall f_told_merges [] (aC (vr 0) (aC (vr 1) aN))) aN)))))))
noncomputable def f_is_merging : FD := (relF (runB 3 3 (b_is_merging)))
theorem sc_is_merging : FnScope ["first", "second", "value"] ["first", "second", "value"] (defScope s24) := ⟨rfl, rfl, rfl, by decide +kernel, rfl, by decide +kernel, by decide +kernel⟩
theorem ok_is_merging {P : Program} {w : World} {K : PySem.W.Frag} {mg : Str → Option Value} {base : Heap} (F : HF K mg base) : FOk P w K mg base 45 (He.fAd K ("is_merging", none)) ["first", "second", "value"] f_is_merging := FOk.rel (fok (k := 44) (F.c.def_ 12) sc_is_merging (fun _ _ _ _ _ _ us hl => match us, hl with | [_, _, _], _ => rfl) (fun cdv A outer s H E hr => by
  have hu := hr.units
  have hN := sc_is_merging.nd
  exact (ess_cons (es_expr (ee_F (ok_check_lengths F) hr (by omega) rfl (F.m_check_lengths) (ea_cons (ee_vr 0) (ea_cons (ee_vr 1) ea_nil))))
    (ess_one (es_ret (ee_F (ok_does_merge F 40) hr (by omega) rfl (F.m_does_merge) (ea_cons (ee_vr 0) (ea_cons (ee_vr 1) (ea_cons (ee_vr 2) (ea_cons (ee_F (ok_told_merges F) hr (by omega) rfl (F.m_told_merges) (ea_cons (ee_vr 0) (ea_cons (ee_vr 1) ea_nil))) ea_nil))))))))))
noncomputable def b_comparisons_to : MS :=
  (sSeq (sOwn 2 (nLst aN)) (sSeq (sWh (mB (m2 (gEq false) (oD (m2 gIx (pk 0) (oD (cs (.int 0))))) (oD (cs (.str "compare"))))) (sSeq (sSet 3 (vIf (mB (mCall f_is_less [] (aC (vr 1) (aC (m2 gIx (pk 0) (oD (cs (.int 1)))) (aC (m2 gIx (pk 0) (oD (cs (.int 2)))) aN))))) (m1 gNeg (oD (cs (.int 1)))) (cs (.int 1)))) (sSeq (sDrop (mMt kL fAppend (pk 2) (aC (nTup (aC (m2 gIx (pk 0) (oD (cs (.int 1)))) (aC (m2 gIx (pk 0) (oD (cs (.int 2)))) (aC (vr 3) aN)))) aN))) (sSet 0 (vIf (mB (m2 gLt (pk 3) (oD (cs (.int 0))))) (m2 gIx (pk 0) (oD (cs (.int 3)))) (m2 gIx (pk 0) (oD (cs (.int 4))))))))) (sRet (mCb gTuple (aC (pk 2) aN)))))
noncomputable def f_comparisons_to : FD := (relF (runB 2 4 (b_comparisons_to)))
theorem sc_comparisons_to : FnScope ["tree", "merge", "found", "sign"] ["tree", "merge"] (defScope s25) := ⟨rfl, rfl, rfl, by decide +kernel, rfl, by decide +kernel, by decide +kernel⟩
theorem ok_comparisons_to {P : Program} {w : World} {K : PySem.W.Frag} {mg : Str → Option Value} {base : Heap} (F : HF K mg base) : FOk P w K mg base 3 (He.fAd K ("comparisons_to", none)) ["tree", "merge"] f_comparisons_to := FOk.rel (fok (k := 2) (F.c.def_ 13) sc_comparisons_to (fun _ _ _ _ _ _ us hl => match us, hl with | [_, _], _ => rfl) (fun cdv A outer s H E hr => by
  have hu := hr.units
  have hN := sc_comparisons_to.nd
  exact (ess_cons (es_own 2 hN (en_lst ea_nil))
    (ess_cons (es_wh owns (et_cmp (o_eq hu) (er_of (ee_ix hu (er_pk 0) (er_of ee_int))) (er_of (ee_gS rfl (F.c_COMPARE))))
    (ess_cons (es_set 3 hN (ee_if (et_val (ee_F (ok_is_less F) hr (by omega) rfl (F.m_is_less) (ea_cons (ee_vr 1) (ea_cons (ee_ix hu (er_pk 0) (er_of ee_int)) (ea_cons (ee_ix hu (er_pk 0) (er_of ee_int)) ea_nil))))) (ee_un o_neg (er_of ee_int)) ee_int))
    (ess_cons (es_expr (ee_mt ms_append (er_pk 2) (ea_cons (ee_tup (ea_cons (ee_ix hu (er_pk 0) (er_of ee_int)) (ea_cons (ee_ix hu (er_pk 0) (er_of ee_int)) (ea_cons (ee_vr 3) ea_nil)))) ea_nil)))
    (ess_one (es_set 0 hN (ee_if (et_cmp o_lt (er_pk 3) (er_of ee_int)) (ee_ix hu (er_pk 0) (er_of ee_int)) (ee_ix hu (er_pk 0) (er_of ee_int))))))))
    (ess_one (es_ret (ee_cbT cb_tuple rfl F.n_tuple (eb_cons (er_pk 2) eb_nil))))))))
noncomputable def b_compared_by : MS :=
  (sSeq (sIf (tNot (mB (mCall f_is_merging [] (aC (vr 0) (aC (vr 1) (aC (vr 2) aN)))))) sNo sNx) (sSeq (sIf (tNot (mB (mCall f_is_merge_of [] (aC (vr 0) (aC (vr 1) (aC (vr 3) aN)))))) sNo sNx) (sRet (mCall f_comparisons_to [] (aC (vr 2) (aC (vr 3) aN))))))
noncomputable def f_compared_by : FD := (relF (runB 4 4 (b_compared_by)))
theorem sc_compared_by : FnScope ["first", "second", "asking", "merge"] ["first", "second", "asking", "merge"] (defScope s26) := ⟨rfl, rfl, rfl, by decide +kernel, rfl, by decide +kernel, by decide +kernel⟩
theorem ok_compared_by {P : Program} {w : World} {K : PySem.W.Frag} {mg : Str → Option Value} {base : Heap} (F : HF K mg base) : FOk P w K mg base 46 (He.fAd K ("compared_by", none)) ["first", "second", "asking", "merge"] f_compared_by := FOk.rel (fok (k := 45) (F.c.def_ 14) sc_compared_by (fun _ _ _ _ _ _ us hl => match us, hl with | [_, _, _, _], _ => rfl) (fun cdv A outer s H E hr => by
  have hu := hr.units
  have hN := sc_compared_by.nd
  exact (ess_cons (es_if (et_not (et_val (ee_F (ok_is_merging F) hr (by omega) rfl (F.m_is_merging) (ea_cons (ee_vr 0) (ea_cons (ee_vr 1) (ea_cons (ee_vr 2) ea_nil))))))
    (ess_one es_no)
    ess_nil)
    (ess_cons (es_if (et_not (et_val (ee_F (ok_is_merge_of F) hr (by omega) rfl (F.m_is_merge_of) (ea_cons (ee_vr 0) (ea_cons (ee_vr 1) (ea_cons (ee_vr 3) ea_nil))))))
    (ess_one es_no)
    ess_nil)
    (ess_one (es_ret (ee_F (ok_comparisons_to F) hr (by omega) rfl (F.m_comparisons_to) (ea_cons (ee_vr 2) (ea_cons (ee_vr 3) ea_nil)))))))))
noncomputable def b_Mergers___init__ : MS :=
  (sSeq (sAsg (nTup (aC (vr 1) (aC (vr 2) aN))) (gT 2 (gsC (gFl "Mergers" "own_first" (pk 0)) (gsC (gFl "Mergers" "own_second" (pk 0)) gsN)))) (sSeq (sFl "Mergers" "own_is_sum" (pk 0) (vr 3)) (sFl "Mergers" "own_best" (pk 0) (nBx (nDct true)))))
noncomputable def f_Mergers___init__ : FD := (runB 4 4 (b_Mergers___init__))
theorem sc_Mergers___init__ : FnScope ["self", "first", "second", "is_sum"] ["self", "first", "second", "is_sum"] (defScope s27_0) := ⟨rfl, rfl, rfl, by decide +kernel, rfl, by decide +kernel, by decide +kernel⟩
theorem ok_Mergers___init__ {P : Program} {w : World} {K : PySem.W.Frag} {mg : Str → Option Value} {base : Heap} (F : HF K mg base) : FOk P w K mg base 1 (He.fAd K ("Mergers", some "__init__")) ["self", "first", "second", "is_sum"] f_Mergers___init__ := (fok (k := 0) (F.c.def_ 15) sc_Mergers___init__ (fun _ _ _ _ _ _ us hl => match us, hl with | [_, _, _, _], _ => rfl) (fun cdv A outer s H E hr => by
  have hu := hr.units
  have hN := sc_Mergers___init__.nd
  exact (ess_cons (es_asg (ee_tup (ea_cons (ee_vr 1) (ea_cons (ee_vr 2) ea_nil))) (eg_t rfl (egs_cons (eg_fl (c := "Mergers") (er_pk 0) (F.m_Mergers) (F.k_Mergers) (He.noat_ok (F.c.fact 23))) (egs_cons (eg_fl (c := "Mergers") (er_pk 0) (F.m_Mergers) (F.k_Mergers) (He.noat_ok (F.c.fact 25))) egs_nil))))
    (ess_cons (es_fl (c := "Mergers") (er_pk 0) (ee_vr 3) (F.m_Mergers) (F.k_Mergers) (He.noat_ok (F.c.fact 24)))
    (ess_one (es_fl (c := "Mergers") (er_pk 0) (ee_bx en_dN) (F.m_Mergers) (F.k_Mergers) (He.noat_ok (F.c.fact 22))))))))
noncomputable def b_Mergers_number : MS :=
  (sSeq (sParA [3, 4] (avV (m2 gIx (oD (m2 gIx (oD (mFl "Mergers" "own_best" (pk 0))) (oD (m2 gIx (pk 2) (oD (cs (.int 2))))))) (oD (cs (.int 0)))) (avV (m2 gIx (oD (m2 gIx (oD (mFl "Mergers" "own_best" (pk 0))) (oD (m2 gIx (pk 2) (oD (cs (.int 3))))))) (oD (cs (.int 0)))) avN))) (sRet (vIf (mB (mFl "Mergers" "own_is_sum" (pk 0))) (m2 gAdd (oD (m2 gAdd (oD (mCb gLen (aC (pk 1) aN))) (pk 3))) (pk 4)) (m2 gAdd (oD (cs (.int 1))) (oD (mCb gMax2 (aC (pk 3) (aC (pk 4) aN))))))))
noncomputable def f_Mergers_number : FD := (relF (runB 3 5 (b_Mergers_number)))
theorem sc_Mergers_number : FnScope ["self", "some", "way", "less", "more"] ["self", "some", "way"] (defScope s27_2) := ⟨rfl, rfl, rfl, by decide +kernel, rfl, by decide +kernel, by decide +kernel⟩
theorem ok_Mergers_number {P : Program} {w : World} {K : PySem.W.Frag} {mg : Str → Option Value} {base : Heap} (F : HF K mg base) : FOk P w K mg base 1 (He.fAd K ("Mergers", some "number")) ["self", "some", "way"] f_Mergers_number := FOk.rel (fok (k := 0) (F.c.def_ 17) sc_Mergers_number (fun _ _ _ _ _ _ us hl => match us, hl with | [_, _, _], _ => rfl) (fun cdv A outer s H E hr => by
  have hu := hr.units
  have hN := sc_Mergers_number.nd
  exact (ess_cons (es_par2 3 4 rfl hN (ev_v (ee_ix hu (er_of (ee_ix hu (er_of (ee_fl (c := "Mergers") (er_pk 0) (F.m_Mergers) (F.k_Mergers) (He.noat_ok (F.c.fact 22)))) (er_of (ee_ix hu (er_pk 2) (er_of ee_int))))) (er_of ee_int)) (ev_v (ee_ix hu (er_of (ee_ix hu (er_of (ee_fl (c := "Mergers") (er_pk 0) (F.m_Mergers) (F.k_Mergers) (He.noat_ok (F.c.fact 22)))) (er_of (ee_ix hu (er_pk 2) (er_of ee_int))))) (er_of ee_int)) ev_nil)))
    (ess_one (es_ret (ee_if (et_val (ee_fl (c := "Mergers") (er_pk 0) (F.m_Mergers) (F.k_Mergers) (He.noat_ok (F.c.fact 24)))) (ee_op o_add (er_of (ee_op o_add (er_of (ee_cb cb_len rfl F.n_len (eb_cons (er_pk 1) eb_nil))) (er_pk 3))) (er_pk 4)) (ee_op o_add (er_of ee_int) (er_of (ee_cb (cb_max2 rfl) rfl F.n_max (eb_cons (er_pk 3) (eb_cons (er_pk 4) eb_nil)))))))))))
noncomputable def b_Mergers_best : MS :=
  (sSeq (sOwn 2 (nLst (aC (vr 1) aN))) (sSeq (sWh (mB (m2 (gEq true) (pk 2) (oD (nFz (nLst aN))))) (sSeq (sSet 3 (m2 gIx (pk 2) (oD (m1 gNeg (oD (cs (.int 1))))))) (sIf (mB (m2 (gIn false) (pk 3) (oD (mFl "Mergers" "own_best" (pk 0))))) (sDrop (mMt kL fPop (pk 2) aN)) (sIf (mB (m2 gLt (oD (mCb gLen (aC (pk 3) aN))) (oD (cs (.int 2))))) (sAsg (nTup (aC (cs (.int 0)) (aC (cs .non) aN))) (gSb (oD (mFl "Mergers" "own_best" (pk 0))) (vr 3))) (sSeq (sSet 4 (mCall f_questions [] (aC (mFl "Mergers" "own_first" (pk 0)) (aC (mFl "Mergers" "own_second" (pk 0)) (aC (vr 3) aN))))) (sSeq (sOwn 5 (nLst aN)) (sSeq (sFor (iV (vr 4)) (gT 4 (gsC (gN 6) (gsC (gN 7) (gsC (gN 8) (gsC (gN 9) gsN))))) (sDrop (mMt kL fExtend (pk 5) (aC (nFz (nLc (iV (nTup (aC (vr 8) (aC (vr 9) aN)))) (gN 10) (mB (m2 (gIn true) (pk 10) (oD (mFl "Mergers" "own_best" (pk 0))))) (vr 10) [10])) aN)))) (sIf (mB (m2 (gEq true) (pk 5) (oD (nFz (nLst aN))))) (sDrop (mMt kL fExtend (pk 2) (aC (vr 5) aN))) (sAsg (mCb (gMM PySem.W.minD) (aC (oD (nFz (nLc (iV (vr 4)) (gN 11) tYs (nTup (aC (mMeth "Mergers" "number" f_Mergers_number [] (vr 0) (aC (vr 3) (aC (vr 11) aN))) (aC (mSl (pk 11) oN (oS (cs (.int 2)))) aN))) [11]))) aN)) (gSb (oD (mFl "Mergers" "own_best" (pk 0))) (vr 3))))))))))) (sRet (m2 gIx (oD (m2 gIx (oD (mFl "Mergers" "own_best" (pk 0))) (pk 1))) (oD (cs (.int 0)))))))
noncomputable def f_Mergers_best : FD := (relF (runB 2 12 (b_Mergers_best)))
theorem sc_Mergers_best : FnScope ["self", "some", "waiting", "last", "ways", "lacks", "at", "to", "less", "more", "lot", "way"] ["self", "some"] (defScope s27_1) := ⟨rfl, rfl, rfl, by decide +kernel, rfl, by decide +kernel, by decide +kernel⟩
theorem ok_Mergers_best {P : Program} {w : World} {K : PySem.W.Frag} {mg : Str → Option Value} {base : Heap} (F : HF K mg base) : FOk P w K mg base 5 (He.fAd K ("Mergers", some "best")) ["self", "some"] f_Mergers_best := FOk.rel (fok (k := 4) (F.c.def_ 16) sc_Mergers_best (fun _ _ _ _ _ _ us hl => match us, hl with | [_, _], _ => rfl) (fun cdv A outer s H E hr => by
  have hu := hr.units
  have hN := sc_Mergers_best.nd
  exact (ess_cons (es_own 2 hN (en_lst (ea_cons (ee_vr 1) ea_nil)))
    (ess_cons (es_wh owns (et_cmp (o_ne hu) (er_pk 2) (er_of (ee_fz (en_lst ea_nil))))
    (ess_cons (es_set 3 hN (ee_ix hu (er_pk 2) (er_of (ee_un o_neg (er_of ee_int)))))
    (ess_one (es_if (et_cmp (o_in hu) (er_pk 3) (er_of (ee_fl (c := "Mergers") (er_pk 0) (F.m_Mergers) (F.k_Mergers) (He.noat_ok (F.c.fact 22)))))
    (ess_one (es_expr (ee_mt0 ms_pop (er_pk 2))))
    (ess_one (es_if (et_cmp o_lt (er_of (ee_cb cb_len rfl F.n_len (eb_cons (er_pk 3) eb_nil))) (er_of ee_int))
    (ess_one (es_asg (ee_tup (ea_cons ee_int (ea_cons ee_non ea_nil))) (eg_sb hu (er_of (ee_fl (c := "Mergers") (er_pk 0) (F.m_Mergers) (F.k_Mergers) (He.noat_ok (F.c.fact 22)))) (ee_vr 3))))
    (ess_cons (es_set 4 hN (ee_F (ok_questions F) hr (by omega) rfl (F.m_questions) (ea_cons (ee_fl (c := "Mergers") (er_pk 0) (F.m_Mergers) (F.k_Mergers) (He.noat_ok (F.c.fact 23))) (ea_cons (ee_fl (c := "Mergers") (er_pk 0) (F.m_Mergers) (F.k_Mergers) (He.noat_ok (F.c.fact 25))) (ea_cons (ee_vr 3) ea_nil)))))
    (ess_cons (es_own 5 hN (en_lst ea_nil))
    (ess_cons (es_for owns rfl (ei_v (ee_vr 4)) (eg_t rfl (egs_cons (eg_n 6 hN) (egs_cons (eg_n 7 hN) (egs_cons (eg_n 8 hN) (egs_cons (eg_n 9 hN) egs_nil)))))
    (ess_one (es_expr (ee_mt ms_extend (er_pk 5) (ea_cons (ee_fz (en_lc (own := [("lot", 10)]) rfl hN (ei_v (ee_tup (ea_cons (ee_vr 8) (ea_cons (ee_vr 9) ea_nil)))) (blkOk_by (N := ["self", "some", "waiting", "last", "ways", "lacks", "at", "to", "less", "more", "lot", "way"]) (sc := (defScope s27_1)) (own := [("lot", 10)]) (by decide +kernel)) (fun _ _ _ _ _ => (eg_n 10 hN)) (fun _ _ _ _ _ => (ets_one (et_cmp (o_nin hu) (er_pk 10) (er_of (ee_fl (c := "Mergers") (er_pk 0) (F.m_Mergers) (F.k_Mergers) (He.noat_ok (F.c.fact 22))))))) (fun _ _ _ _ _ => (ee_vr 10)))) ea_nil)))))
    (ess_one (es_if (et_cmp (o_ne hu) (er_pk 5) (er_of (ee_fz (en_lst ea_nil))))
    (ess_one (es_expr (ee_mt ms_extend (er_pk 2) (ea_cons (ee_vr 5) ea_nil))))
    (ess_one (es_asg (ee_cb (cb_minD rfl hu) rfl F.n_min (eb_cons (er_of (ee_fz (en_lc (own := [("way", 11)]) rfl hN (ei_v (ee_vr 4)) (blkOk_by (N := ["self", "some", "waiting", "last", "ways", "lacks", "at", "to", "less", "more", "lot", "way"]) (sc := (defScope s27_1)) (own := [("way", 11)]) (by decide +kernel)) (fun _ _ _ _ _ => (eg_n 11 hN)) (fun _ _ _ _ _ => ets_nil) (fun _ _ _ _ _ => (ee_tup (ea_cons (ee_M (c := "Mergers") (ee_vr 0) (F.m_Mergers) (F.k_Mergers) (He.meth_ok (F.c.fact 27)) (ok_Mergers_number F) hr (by omega) (ea_cons (ee_vr 3) (ea_cons (ee_vr 11) ea_nil))) (ea_cons (ee_sl (er_pk 11) eo_n (eo_s ee_int)) ea_nil))))))) eb_nil)) (eg_sb hu (er_of (ee_fl (c := "Mergers") (er_pk 0) (F.m_Mergers) (F.k_Mergers) (He.noat_ok (F.c.fact 22)))) (ee_vr 3)))))))))))))))
    (ess_one (es_ret (ee_ix hu (er_of (ee_ix hu (er_of (ee_fl (c := "Mergers") (er_pk 0) (F.m_Mergers) (F.k_Mergers) (He.noat_ok (F.c.fact 22)))) (er_pk 1))) (er_of ee_int))))))))
noncomputable def b_Mergers_tree (g : FD) : MS :=
  (sSeq (sSet 2 (m2 gIx (oD (m2 gIx (oD (mFl "Mergers" "own_best" (pk 0))) (pk 1))) (oD (cs (.int 1))))) (sSeq (sIf (mB (m2 (gIs false) (pk 2) (oD (cs .non)))) (sRet (nTup (aC (cs (.str "merged")) (aC (m2 gIx (pk 1) (oD (cs (.int 0)))) aN)))) sNx) (sSeq (sAsg (mCall f_parted [] (aC (vr 1) (aC (m2 gIx (pk 2) (oD (cs (.int 0)))) (aC (m2 gIx (pk 2) (oD (cs (.int 1)))) aN)))) (gT 2 (gsC (gN 3) (gsC (gN 4) gsN)))) (sRet (nTup (aC (cs (.str "compare")) (aC (m2 gIx (pk 2) (oD (cs (.int 0)))) (aC (m2 gIx (pk 2) (oD (cs (.int 1)))) (aC (mMeth "Mergers" "tree" g [] (vr 0) (aC (vr 3) aN)) (aC (mMeth "Mergers" "tree" g [] (vr 0) (aC (vr 4) aN)) aN))))))))))
noncomputable def f_Mergers_tree : Nat → FD
  | 0 => fun _ _ => none
  | n + 1 => (relF (runB 2 5 (b_Mergers_tree (f_Mergers_tree n))))
theorem sc_Mergers_tree : FnScope ["self", "some", "pair", "less", "more"] ["self", "some"] (defScope s27_3) := ⟨rfl, rfl, rfl, by decide +kernel, rfl, by decide +kernel, by decide +kernel⟩
theorem ok_Mergers_tree {P : Program} {w : World} {K : PySem.W.Frag} {mg : Str → Option Value} {base : Heap} (F : HF K mg base) : ∀ n, FOk P w K mg base (4 + n) (He.fAd K ("Mergers", some "tree")) ["self", "some"] (f_Mergers_tree n)
  | 0 => fok0 (F.c.def_ 18) (fun _ _ _ _ _ _ us hl => match us, hl with | [_, _], _ => rfl)
  | n + 1 => by
    have hg := ok_Mergers_tree (P := P) (w := w) F n
    exact FOk.rel (fok (k := 4 + n) (F.c.def_ 18) sc_Mergers_tree (fun _ _ _ _ _ _ us hl => match us, hl with | [_, _], _ => rfl) (fun cdv A outer s H E hr => by
        have hu := hr.units
        have hN := sc_Mergers_tree.nd
        exact (ess_cons (es_set 2 hN (ee_ix hu (er_of (ee_ix hu (er_of (ee_fl (c := "Mergers") (er_pk 0) (F.m_Mergers) (F.k_Mergers) (He.noat_ok (F.c.fact 22)))) (er_pk 1))) (er_of ee_int)))
          (ess_cons (es_if (et_cmp o_is (er_pk 2) (er_of ee_non))
          (ess_one (es_ret (ee_tup (ea_cons (ee_gS rfl (F.c_MERGED)) (ea_cons (ee_ix hu (er_pk 1) (er_of ee_int)) ea_nil)))))
          ess_nil)
          (ess_cons (es_asg (ee_F (ok_parted F) hr (by omega) rfl (F.m_parted) (ea_cons (ee_vr 1) (ea_cons (ee_ix hu (er_pk 2) (er_of ee_int)) (ea_cons (ee_ix hu (er_pk 2) (er_of ee_int)) ea_nil)))) (eg_t rfl (egs_cons (eg_n 3 hN) (egs_cons (eg_n 4 hN) egs_nil))))
          (ess_one (es_ret (ee_tup (ea_cons (ee_gS rfl (F.c_COMPARE)) (ea_cons (ee_ix hu (er_pk 2) (er_of ee_int)) (ea_cons (ee_ix hu (er_pk 2) (er_of ee_int)) (ea_cons (ee_M (c := "Mergers") (ee_vr 0) (F.m_Mergers) (F.k_Mergers) (He.meth_ok (F.c.fact 28)) hg hr (by omega) (ea_cons (ee_vr 3) ea_nil)) (ea_cons (ee_M (c := "Mergers") (ee_vr 0) (F.m_Mergers) (F.k_Mergers) (He.meth_ok (F.c.fact 28)) hg hr (by omega) (ea_cons (ee_vr 4) ea_nil)) ea_nil)))))))))))))
noncomputable def b_check_both : MS :=
  (sSeq (sDrop (mCall f_check_lengths [] (aC (vr 0) (aC (vr 1) aN)))) (sIf (mB (m2 gGt (oD (m2 gAdd (pk 0) (pk 1))) (oD (cs (.int 8))))) sNo sNx))
noncomputable def f_check_both : FD := (relF (runB 2 2 (b_check_both)))
theorem sc_check_both : FnScope ["first", "second"] ["first", "second"] (defScope s28) := ⟨rfl, rfl, rfl, by decide +kernel, rfl, by decide +kernel, by decide +kernel⟩
theorem ok_check_both {P : Program} {w : World} {K : PySem.W.Frag} {mg : Str → Option Value} {base : Heap} (F : HF K mg base) : FOk P w K mg base 4 (He.fAd K ("check_both", none)) ["first", "second"] f_check_both := FOk.rel (fok (k := 3) (F.c.def_ 19) sc_check_both (fun _ _ _ _ _ _ us hl => match us, hl with | [_, _], _ => rfl) (fun cdv A outer s H E hr => by
  have hu := hr.units
  have hN := sc_check_both.nd
  exact (ess_cons (es_expr (ee_F (ok_check_lengths F) hr (by omega) rfl (F.m_check_lengths) (ea_cons (ee_vr 0) (ea_cons (ee_vr 1) ea_nil))))
    (ess_one (es_if (et_cmp o_gt (er_of (ee_op o_add (er_pk 0) (er_pk 1))) (er_of (ee_gI rfl (F.c_MOST_BOTH))))
    (ess_one es_no)
    ess_nil)))))
noncomputable def b_told_comparisons : MS :=
  (sSeq (sSet 3 (mCall f_told_merges [] (aC (vr 0) (aC (vr 1) aN)))) (sSeq (sSet 4 (mCall (mkK "Mergers" f_Mergers___init__) [] (aC (vr 0) (aC (vr 1) (aC (vr 2) aN))))) (sRet (nTup (aC (mMeth "Mergers" "best" f_Mergers_best [] (vr 4) (aC (vr 3) aN)) (aC (mMeth "Mergers" "tree" (f_Mergers_tree 40) [] (vr 4) (aC (vr 3) aN)) aN))))))
noncomputable def f_told_comparisons : FD := (relF (runB 3 5 (b_told_comparisons)))
theorem sc_told_comparisons : FnScope ["first", "second", "is_sum", "some", "mergers"] ["first", "second", "is_sum"] (defScope s29) := ⟨rfl, rfl, rfl, by decide +kernel, rfl, by decide +kernel, by decide +kernel⟩
theorem ok_told_comparisons {P : Program} {w : World} {K : PySem.W.Frag} {mg : Str → Option Value} {base : Heap} (F : HF K mg base) : FOk P w K mg base 45 (He.fAd K ("told_comparisons", none)) ["first", "second", "is_sum"] f_told_comparisons := FOk.rel (fok (k := 44) (F.c.def_ 20) sc_told_comparisons (fun _ _ _ _ _ _ us hl => match us, hl with | [_, _, _], _ => rfl) (fun cdv A outer s H E hr => by
  have hu := hr.units
  have hN := sc_told_comparisons.nd
  exact (ess_cons (es_set 3 hN (ee_F (ok_told_merges F) hr (by omega) rfl (F.m_told_merges) (ea_cons (ee_vr 0) (ea_cons (ee_vr 1) ea_nil))))
    (ess_cons (es_set 4 hN (ee_K (F.mk_Mergers) (ok_Mergers___init__ F) hr (by omega) rfl (F.m_Mergers) (ea_cons (ee_vr 0) (ea_cons (ee_vr 1) (ea_cons (ee_vr 2) ea_nil)))))
    (ess_one (es_ret (ee_tup (ea_cons (ee_M (c := "Mergers") (ee_vr 4) (F.m_Mergers) (F.k_Mergers) (He.meth_ok (F.c.fact 26)) (ok_Mergers_best F) hr (by omega) (ea_cons (ee_vr 3) ea_nil)) (ea_cons (ee_M (c := "Mergers") (ee_vr 4) (F.m_Mergers) (F.k_Mergers) (He.meth_ok (F.c.fact 28)) (ok_Mergers_tree F 40) hr (by omega) (ea_cons (ee_vr 3) ea_nil)) ea_nil)))))))))
noncomputable def b_fewest_comparisons : MS :=
  (sSeq (sDrop (mCall f_check_both [] (aC (vr 0) (aC (vr 1) aN)))) (sRet (mCall f_told_comparisons [] (aC (vr 0) (aC (vr 1) (aC (cs (.bl false)) aN))))))
noncomputable def f_fewest_comparisons : FD := (relF (runB 2 2 (b_fewest_comparisons)))
theorem sc_fewest_comparisons : FnScope ["first", "second"] ["first", "second"] (defScope s30) := ⟨rfl, rfl, rfl, by decide +kernel, rfl, by decide +kernel, by decide +kernel⟩
theorem ok_fewest_comparisons {P : Program} {w : World} {K : PySem.W.Frag} {mg : Str → Option Value} {base : Heap} (F : HF K mg base) : FOk P w K mg base 46 (He.fAd K ("fewest_comparisons", none)) ["first", "second"] f_fewest_comparisons := FOk.rel (fok (k := 45) (F.c.def_ 21) sc_fewest_comparisons (fun _ _ _ _ _ _ us hl => match us, hl with | [_, _], _ => rfl) (fun cdv A outer s H E hr => by
  have hu := hr.units
  have hN := sc_fewest_comparisons.nd
  exact (ess_cons (es_expr (ee_F (ok_check_both F) hr (by omega) rfl (F.m_check_both) (ea_cons (ee_vr 0) (ea_cons (ee_vr 1) ea_nil))))
    (ess_one (es_ret (ee_F (ok_told_comparisons F) hr (by omega) rfl (F.m_told_comparisons) (ea_cons (ee_vr 0) (ea_cons (ee_vr 1) (ea_cons ee_bl ea_nil)))))))))
noncomputable def b_least_comparisons : MS :=
  (sSeq (sDrop (mCall f_check_both [] (aC (vr 0) (aC (vr 1) aN)))) (sRet (mCall f_told_comparisons [] (aC (vr 0) (aC (vr 1) (aC (cs (.bl true)) aN))))))
noncomputable def f_least_comparisons : FD := (relF (runB 2 2 (b_least_comparisons)))
theorem sc_least_comparisons : FnScope ["first", "second"] ["first", "second"] (defScope s31) := ⟨rfl, rfl, rfl, by decide +kernel, rfl, by decide +kernel, by decide +kernel⟩
theorem ok_least_comparisons {P : Program} {w : World} {K : PySem.W.Frag} {mg : Str → Option Value} {base : Heap} (F : HF K mg base) : FOk P w K mg base 46 (He.fAd K ("least_comparisons", none)) ["first", "second"] f_least_comparisons := FOk.rel (fok (k := 45) (F.c.def_ 22) sc_least_comparisons (fun _ _ _ _ _ _ us hl => match us, hl with | [_, _], _ => rfl) (fun cdv A outer s H E hr => by
  have hu := hr.units
  have hN := sc_least_comparisons.nd
  exact (ess_cons (es_expr (ee_F (ok_check_both F) hr (by omega) rfl (F.m_check_both) (ea_cons (ee_vr 0) (ea_cons (ee_vr 1) ea_nil))))
    (ess_one (es_ret (ee_F (ok_told_comparisons F) hr (by omega) rfl (F.m_told_comparisons) (ea_cons (ee_vr 0) (ea_cons (ee_vr 1) (ea_cons ee_bl ea_nil)))))))))
noncomputable def b_does_show_merging : MS :=
  (sSeq (sDrop (mCall f_check_both [] (aC (vr 0) (aC (vr 1) aN)))) (sSeq (sIf (tOr (tNot (mB (mIs PyData.isTuple (pk 2)))) (tOr (mB (m2 (gEq true) (oD (mCb gLen (aC (pk 2) aN))) (oD (cs (.int 2))))) (tNot (mB (mCall f_is_integer [] (aC (m2 gIx (pk 2) (oD (cs (.int 0)))) aN)))))) (sRet (cs (.bl false))) sNx) (sSeq (sSet 4 (mCall f_told_merges [] (aC (vr 0) (aC (vr 1) aN)))) (sSeq (sIf (tOr (mB (m2 (gEq true) (oD (m2 gIx (pk 2) (oD (cs (.int 0))))) (oD (m2 gIx (oD (mCall f_told_comparisons [] (aC (vr 0) (aC (vr 1) (aC (vr 3) aN))))) (oD (cs (.int 0))))))) (tNot (mB (mCall (f_does_merge 40) [] (aC (vr 0) (aC (vr 1) (aC (m2 gIx (pk 2) (oD (cs (.int 1)))) (aC (vr 4) aN)))))))) (sRet (cs (.bl false))) sNx) (sSeq (sOwn 5 (nLc (iV (vr 4)) (gN 6) tYs (mCb gLen (aC (oD (mCall f_comparisons_to [] (aC (m2 gIx (pk 2) (oD (cs (.int 1)))) (aC (vr 6) aN)))) aN)) [6])) (sRet (m2 (gEq false) (oD (m2 gIx (pk 2) (oD (cs (.int 0))))) (oD (vIf (mB (vr 3)) (mCb gSum (aC (pk 5) aN)) (mCb (gMM PySem.W.maxD) (aC (pk 5) aN)))))))))))
noncomputable def f_does_show_merging : FD := (relF (runB 4 7 (b_does_show_merging)))
theorem sc_does_show_merging : FnScope ["first", "second", "value", "is_sum", "some", "asked", "merge"] ["first", "second", "value", "is_sum"] (defScope s32) := ⟨rfl, rfl, rfl, by decide +kernel, rfl, by decide +kernel, by decide +kernel⟩
theorem ok_does_show_merging {P : Program} {w : World} {K : PySem.W.Frag} {mg : Str → Option Value} {base : Heap} (F : HF K mg base) : FOk P w K mg base 46 (He.fAd K ("does_show_merging", none)) ["first", "second", "value", "is_sum"] f_does_show_merging := FOk.rel (fok (k := 45) (F.c.def_ 23) sc_does_show_merging (fun _ _ _ _ _ _ us hl => match us, hl with | [_, _, _, _], _ => rfl) (fun cdv A outer s H E hr => by
  have hu := hr.units
  have hN := sc_does_show_merging.nd
  exact (ess_cons (es_expr (ee_F (ok_check_both F) hr (by omega) rfl (F.m_check_both) (ea_cons (ee_vr 0) (ea_cons (ee_vr 1) ea_nil))))
    (ess_cons (es_if (et_w (ew_or (et_not (et_val (ee_is isT_tuple rfl (F.n_isinstance) (er_pk 2) rfl (F.n_tuple)))) (ew_or (et_cmp (o_ne hu) (er_of (ee_cb cb_len rfl F.n_len (eb_cons (er_pk 2) eb_nil))) (er_of ee_int)) (ew_or1 (et_not (et_val (ee_F (ok_is_integer F) hr (by omega) rfl (F.m_is_integer) (ea_cons (ee_ix hu (er_pk 2) (er_of ee_int)) ea_nil))))))))
    (ess_one (es_ret ee_bl))
    ess_nil)
    (ess_cons (es_set 4 hN (ee_F (ok_told_merges F) hr (by omega) rfl (F.m_told_merges) (ea_cons (ee_vr 0) (ea_cons (ee_vr 1) ea_nil))))
    (ess_cons (es_if (et_w (ew_or (et_cmp (o_ne hu) (er_of (ee_ix hu (er_pk 2) (er_of ee_int))) (er_of (ee_ix hu (er_of (ee_F (ok_told_comparisons F) hr (by omega) rfl (F.m_told_comparisons) (ea_cons (ee_vr 0) (ea_cons (ee_vr 1) (ea_cons (ee_vr 3) ea_nil))))) (er_of ee_int)))) (ew_or1 (et_not (et_val (ee_F (ok_does_merge F 40) hr (by omega) rfl (F.m_does_merge) (ea_cons (ee_vr 0) (ea_cons (ee_vr 1) (ea_cons (ee_ix hu (er_pk 2) (er_of ee_int)) (ea_cons (ee_vr 4) ea_nil))))))))))
    (ess_one (es_ret ee_bl))
    ess_nil)
    (ess_cons (es_ownLc (own := [("merge", 6)]) 5 rfl hN (ei_v (ee_vr 4)) (blkOk_by (N := ["first", "second", "value", "is_sum", "some", "asked", "merge"]) (sc := (defScope s32)) (own := [("merge", 6)]) (by decide +kernel)) (fun _ _ _ _ _ => (eg_n 6 hN)) (fun _ _ _ _ _ => ets_nil) (fun _ _ _ _ _ => (ee_cb cb_len rfl F.n_len (eb_cons (er_of (ee_F (ok_comparisons_to F) hr (by omega) rfl (F.m_comparisons_to) (ea_cons (ee_ix hu (er_pk 2) (er_of ee_int)) (ea_cons (ee_vr 6) ea_nil)))) eb_nil))) (sw_true rfl rfl rfl rfl))
    (ess_one (es_ret (ee_cmp (o_eq hu) (er_of (ee_ix hu (er_pk 2) (er_of ee_int))) (er_of (ee_if (et_val (ee_vr 3)) (ee_cb (cb_sum rfl) rfl F.n_sum (eb_cons (er_pk 5) eb_nil)) (ee_cb (cb_maxD rfl hu) rfl F.n_max (eb_cons (er_pk 5) eb_nil))))))))))))))
noncomputable def b_shows_fewest_comparisons : MS :=
  (sRet (mCall f_does_show_merging [] (aC (vr 0) (aC (vr 1) (aC (vr 2) (aC (cs (.bl false)) aN))))))
noncomputable def f_shows_fewest_comparisons : FD := (relF (runB 3 3 (b_shows_fewest_comparisons)))
theorem sc_shows_fewest_comparisons : FnScope ["first", "second", "value"] ["first", "second", "value"] (defScope s33) := ⟨rfl, rfl, rfl, by decide +kernel, rfl, by decide +kernel, by decide +kernel⟩
theorem ok_shows_fewest_comparisons {P : Program} {w : World} {K : PySem.W.Frag} {mg : Str → Option Value} {base : Heap} (F : HF K mg base) : FOk P w K mg base 47 (He.fAd K ("shows_fewest_comparisons", none)) ["first", "second", "value"] f_shows_fewest_comparisons := FOk.rel (fok (k := 46) (F.c.def_ 24) sc_shows_fewest_comparisons (fun _ _ _ _ _ _ us hl => match us, hl with | [_, _, _], _ => rfl) (fun cdv A outer s H E hr => by
  have hu := hr.units
  have hN := sc_shows_fewest_comparisons.nd
  exact (ess_one (es_ret (ee_F (ok_does_show_merging F) hr (by omega) rfl (F.m_does_show_merging) (ea_cons (ee_vr 0) (ea_cons (ee_vr 1) (ea_cons (ee_vr 2) (ea_cons ee_bl ea_nil)))))))))
noncomputable def b_shows_least_comparisons : MS :=
  (sRet (mCall f_does_show_merging [] (aC (vr 0) (aC (vr 1) (aC (vr 2) (aC (cs (.bl true)) aN))))))
noncomputable def f_shows_least_comparisons : FD := (relF (runB 3 3 (b_shows_least_comparisons)))
theorem sc_shows_least_comparisons : FnScope ["first", "second", "value"] ["first", "second", "value"] (defScope s34) := ⟨rfl, rfl, rfl, by decide +kernel, rfl, by decide +kernel, by decide +kernel⟩
theorem ok_shows_least_comparisons {P : Program} {w : World} {K : PySem.W.Frag} {mg : Str → Option Value} {base : Heap} (F : HF K mg base) : FOk P w K mg base 47 (He.fAd K ("shows_least_comparisons", none)) ["first", "second", "value"] f_shows_least_comparisons := FOk.rel (fok (k := 46) (F.c.def_ 25) sc_shows_least_comparisons (fun _ _ _ _ _ _ us hl => match us, hl with | [_, _, _], _ => rfl) (fun cdv A outer s H E hr => by
  have hu := hr.units
  have hN := sc_shows_least_comparisons.nd
  exact (ess_one (es_ret (ee_F (ok_does_show_merging F) hr (by omega) rfl (F.m_does_show_merging) (ea_cons (ee_vr 0) (ea_cons (ee_vr 1) (ea_cons (ee_vr 2) (ea_cons ee_bl ea_nil)))))))))
noncomputable def b__law_take : MS :=
  (sSeq (sIf (mB (m2 gGt (oD (m2 gIx (pk 0) (oD (cs (.int 0))))) (oD (cs (.int 0))))) (sSeq (sSet 4 (m2 gMod (oD (mCb gInt (aC (oD (m2 gIx (pk 0) (oD (cs (.int 0))))) aN))) (pk 1))) (sSeq (sAsg (m2 gFdiv (oD (m2 gIx (pk 0) (oD (cs (.int 0))))) (pk 1)) (gSb (pk 0) (cs (.int 0)))) (sRet (vr 4)))) sNx) (sSeq (sAsg (m2 gAdd (oD (m2 gIx (pk 0) (oD (cs (.int 2))))) (oD (cs (.int 1)))) (gSb (pk 0) (cs (.int 2)))) (sSeq (sSet 2 (m2 gIx (oD (nFz (nLst (aC (cs (.int 2147483647)) (aC (cs (.int 2147483629)) (aC (cs (.int 2147483587)) (aC (cs (.int 2147483579)) (aC (cs (.int 2147483563)) aN)))))))) (oD (m2 gMod (oD (mCb gInt (aC (oD (m2 gIx (pk 0) (oD (cs (.int 2))))) aN))) (oD (cs (.int 5))))))) (sSeq (sSet 3 (m2 gMod (oD (mCb gInt (aC (oD (m2 gPow (oD (m2 gAdd (oD (m2 gAdd (oD (m2 gIx (pk 0) (oD (cs (.int 1))))) (oD (m2 gMul (oD (m2 gMul (oD (cs (.int 90546))) (oD (m2 gIx (pk 0) (oD (cs (.int 2))))))) (oD (m2 gIx (pk 0) (oD (cs (.int 2))))))))) (oD (cs (.int 16))))) (oD (cs (.int 3))))) aN))) (pk 2))) (sSeq (sSet 3 (m2 gMod (oD (mCb gInt (aC (oD (m2 gMul (pk 3) (oD (m2 gAdd (oD (m2 gMod (oD (mCb gInt (aC (pk 3) aN))) (oD (cs (.int 12204))))) (oD (m2 gMul (oD (cs (.int 155))) (oD (m2 gIx (pk 0) (oD (cs (.int 2))))))))))) aN))) (oD (cs (.int 2305843009213693907))))) (sRet (m2 gMod (oD (mCb gInt (aC (oD (m2 gFdiv (pk 3) (oD (cs (.int 113))))) aN))) (pk 1))))))))
noncomputable def f__law_take : FD := (relF (runB 2 5 (b__law_take)))
theorem sc__law_take : FnScope ["pot", "upto", "prime", "made", "digit"] ["pot", "upto"] (defScope s36) := ⟨rfl, rfl, rfl, by decide +kernel, rfl, by decide +kernel, by decide +kernel⟩
theorem ok__law_take {P : Program} {w : World} {K : PySem.W.Frag} {mg : Str → Option Value} {base : Heap} (F : HF K mg base) : FOk P w K mg base 1 (He.fAd K ("_law_take", none)) ["pot", "upto"] f__law_take := FOk.rel (fok (k := 0) (F.c.def_ 26) sc__law_take (fun _ _ _ _ _ _ us hl => match us, hl with | [_, _], _ => rfl) (fun cdv A outer s H E hr => by
  have hu := hr.units
  have hN := sc__law_take.nd
  exact (ess_cons (es_if (et_cmp o_gt (er_of (ee_ix hu (er_pk 0) (er_of ee_int))) (er_of ee_int))
    (ess_cons (es_set 4 hN (ee_op o_mod (er_of (ee_cbT cb_int rfl F.n_int (eb_cons (er_of (ee_ix hu (er_pk 0) (er_of ee_int))) eb_nil))) (er_pk 1)))
    (ess_cons (es_asg (ee_op o_fdiv (er_of (ee_ix hu (er_pk 0) (er_of ee_int))) (er_pk 1)) (eg_sb hu (er_pk 0) ee_int))
    (ess_one (es_ret (ee_vr 4)))))
    ess_nil)
    (ess_cons (es_asg (ee_op o_add (er_of (ee_ix hu (er_pk 0) (er_of ee_int))) (er_of ee_int)) (eg_sb hu (er_pk 0) ee_int))
    (ess_cons (es_set 2 hN (ee_ix hu (er_of (ee_fz (en_lst (ea_cons ee_int (ea_cons ee_int (ea_cons ee_int (ea_cons ee_int (ea_cons ee_int ea_nil)))))))) (er_of (ee_op o_mod (er_of (ee_cbT cb_int rfl F.n_int (eb_cons (er_of (ee_ix hu (er_pk 0) (er_of ee_int))) eb_nil))) (er_of ee_int)))))
    (ess_cons (es_set 3 hN (ee_op o_mod (er_of (ee_cbT cb_int rfl F.n_int (eb_cons (er_of (ee_op o_pow (er_of (ee_op o_add (er_of (ee_op o_add (er_of (ee_ix hu (er_pk 0) (er_of ee_int))) (er_of (ee_op o_mul (er_of (ee_op o_mul (er_of ee_int) (er_of (ee_ix hu (er_pk 0) (er_of ee_int))))) (er_of (ee_ix hu (er_pk 0) (er_of ee_int))))))) (er_of ee_int))) (er_of ee_int))) eb_nil))) (er_pk 2)))
    (ess_cons (es_set 3 hN (ee_op o_mod (er_of (ee_cbT cb_int rfl F.n_int (eb_cons (er_of (ee_op o_mul (er_pk 3) (er_of (ee_op o_add (er_of (ee_op o_mod (er_of (ee_cbT cb_int rfl F.n_int (eb_cons (er_pk 3) eb_nil))) (er_of ee_int))) (er_of (ee_op o_mul (er_of ee_int) (er_of (ee_ix hu (er_pk 0) (er_of ee_int))))))))) eb_nil))) (er_of ee_int)))
    (ess_one (es_ret (ee_op o_mod (er_of (ee_cbT cb_int rfl F.n_int (eb_cons (er_of (ee_op o_fdiv (er_pk 3) (er_of ee_int))) eb_nil))) (er_pk 1)))))))))))
noncomputable def b__law_of : MS :=
  (sRet (m2 gIx (pk 1) (oD (mCall f__law_take [] (aC (vr 0) (aC (mCb gLen (aC (pk 1) aN)) aN))))))
noncomputable def f__law_of : FD := (relF (runB 2 2 (b__law_of)))
theorem sc__law_of : FnScope ["pot", "some"] ["pot", "some"] (defScope s37) := ⟨rfl, rfl, rfl, by decide +kernel, rfl, by decide +kernel, by decide +kernel⟩
theorem ok__law_of {P : Program} {w : World} {K : PySem.W.Frag} {mg : Str → Option Value} {base : Heap} (F : HF K mg base) : FOk P w K mg base 2 (He.fAd K ("_law_of", none)) ["pot", "some"] f__law_of := FOk.rel (fok (k := 1) (F.c.def_ 27) sc__law_of (fun _ _ _ _ _ _ us hl => match us, hl with | [_, _], _ => rfl) (fun cdv A outer s H E hr => by
  have hu := hr.units
  have hN := sc__law_of.nd
  exact (ess_one (es_ret (ee_ix hu (er_pk 1) (er_of (ee_F (ok__law_take F) hr (by omega) rfl (F.m__law_take) (ea_cons (ee_vr 0) (ea_cons (ee_cb cb_len rfl F.n_len (eb_cons (er_pk 1) eb_nil)) ea_nil)))))))))
noncomputable def b__law_some : MS :=
  (sSeq (sParA [4, 5] (avO (nCb gList (aC (pk 1) aN)) (avO (nLst aN) avN))) (sSeq (sFor (iR1 (aC (vr 2) aN)) (gN 3) (sDrop (mMt kL fAppend (pk 5) (aC (mMt kL fPopAt (pk 4) (aC (mCall f__law_take [] (aC (vr 0) (aC (mCb gLen (aC (pk 4) aN)) aN))) aN)) aN)))) (sRet (vr 5))))
noncomputable def f__law_some : FD := (relF (runB 3 6 (b__law_some)))
theorem sc__law_some : FnScope ["pot", "some", "many", "lap", "left", "found"] ["pot", "some", "many"] (defScope s38) := ⟨rfl, rfl, rfl, by decide +kernel, rfl, by decide +kernel, by decide +kernel⟩
theorem ok__law_some {P : Program} {w : World} {K : PySem.W.Frag} {mg : Str → Option Value} {base : Heap} (F : HF K mg base) : FOk P w K mg base 2 (He.fAd K ("_law_some", none)) ["pot", "some", "many"] f__law_some := FOk.rel (fok (k := 1) (F.c.def_ 28) sc__law_some (fun _ _ _ _ _ _ us hl => match us, hl with | [_, _, _], _ => rfl) (fun cdv A outer s H E hr => by
  have hu := hr.units
  have hN := sc__law_some.nd
  exact (ess_cons (es_par2 4 5 rfl hN (ev_o (en_cbT co_list rfl F.n_list (eb_cons (er_pk 1) eb_nil)) (ev_o (en_lst ea_nil) ev_nil)))
    (ess_cons (es_for owns rfl (ei_r1 rfl F.n_range (ea_cons (ee_vr 2) ea_nil)) (eg_n 3 hN)
    (ess_one (es_expr (ee_mt ms_append (er_pk 5) (ea_cons (ee_mt ms_popAt (er_pk 4) (ea_cons (ee_F (ok__law_take F) hr (by omega) rfl (F.m__law_take) (ea_cons (ee_vr 0) (ea_cons (ee_cb cb_len rfl F.n_len (eb_cons (er_pk 4) eb_nil)) ea_nil))) ea_nil)) ea_nil)))))
    (ess_one (es_ret (ee_vr 5)))))))
noncomputable def b__law_cells : MS :=
  (sRet (nFz (nLRg (rg1 (mCb gMax2 (aC (oD (cs (.int 1))) (aC (oD (mCb gMin2 (aC (pk 1) (aC (oD (mCb gLen (aC (pk 0) aN))) aN)))) aN)))))))
noncomputable def f__law_cells : FD := (relF (runB 2 2 (b__law_cells)))
theorem sc__law_cells : FnScope ["script", "upto"] ["script", "upto"] (defScope s39) := ⟨rfl, rfl, rfl, by decide +kernel, rfl, by decide +kernel, by decide +kernel⟩
theorem ok__law_cells {P : Program} {w : World} {K : PySem.W.Frag} {mg : Str → Option Value} {base : Heap} (F : HF K mg base) : FOk P w K mg base 1 (He.fAd K ("_law_cells", none)) ["script", "upto"] f__law_cells := FOk.rel (fok (k := 0) (F.c.def_ 29) sc__law_cells (fun _ _ _ _ _ _ us hl => match us, hl with | [_, _], _ => rfl) (fun cdv A outer s H E hr => by
  have hu := hr.units
  have hN := sc__law_cells.nd
  exact (ess_one (es_ret (ee_fz (en_lrg rfl rfl F.n_list (erg_1 rfl F.n_range (ee_cb (cb_max2 rfl) rfl F.n_max (eb_cons (er_of ee_int) (eb_cons (er_of (ee_cb (cb_min2 rfl) rfl F.n_min (eb_cons (er_pk 1) (eb_cons (er_of (ee_cb cb_len rfl F.n_len (eb_cons (er_pk 0) eb_nil))) eb_nil)))) eb_nil))))))))))
noncomputable def b__law_pot : MS :=
  (sSeq (sSet 2 (vIf (mB (m2 gLt (pk 1) (oD (mCb gLen (aC (pk 0) aN))))) (m2 gIx (pk 0) (pk 1)) (m2 gAdd (oD (m2 gAdd (oD (m2 gMod (oD (mCb gSum (aC (oD (mSl (pk 0) oN (oS (cs (.int 1))))) aN))) (oD (cs (.int 1000003))))) (oD (m2 gMul (oD (cs (.int 263426))) (pk 1))))) (oD (cs (.int 74032)))))) (sSeq (sSet 3 (m2 gMul (oD (m2 gMod (oD (mCb gInt (aC (oD (mCb gAbs (aC (pk 2) aN))) aN))) (oD (m2 gPow (oD (m2 gPow (oD (cs (.int 10))) (oD (cs (.int 60))))) (oD (cs (.int 5))))))) (oD (mCb gInt (aC (oD (m2 gGe (oD (mCb gAbs (aC (pk 2) aN))) (oD (m2 gPow (oD (cs (.int 10))) (oD (cs (.int 18))))))) aN))))) (sSeq (sSet 4 (m2 gMod (oD (mCb gInt (aC (pk 2) aN))) (oD (cs (.int 2305843009213693951))))) (sRet (nBx (nLst (aC (vr 3) (aC (m2 gMod (oD (mCb gInt (aC (oD (m2 gAdd (oD (m2 gAdd (oD (m2 gMul (pk 4) (oD (cs (.int 484867))))) (oD (m2 gMul (oD (m2 gMul (oD (cs (.int 247618))) (pk 1))) (pk 1))))) (oD (cs (.int 195326))))) aN))) (oD (cs (.int 2305843009213693921)))) (aC (cs (.int 0)) aN)))))))))
noncomputable def f__law_pot : FD := (runB 2 5 (b__law_pot))
theorem sc__law_pot : FnScope ["script", "place", "cell", "own", "small"] ["script", "place"] (defScope s40) := ⟨rfl, rfl, rfl, by decide +kernel, rfl, by decide +kernel, by decide +kernel⟩
theorem ok__law_pot {P : Program} {w : World} {K : PySem.W.Frag} {mg : Str → Option Value} {base : Heap} (F : HF K mg base) : FOk P w K mg base 1 (He.fAd K ("_law_pot", none)) ["script", "place"] f__law_pot := (fok (k := 0) (F.c.def_ 30) sc__law_pot (fun _ _ _ _ _ _ us hl => match us, hl with | [_, _], _ => rfl) (fun cdv A outer s H E hr => by
  have hu := hr.units
  have hN := sc__law_pot.nd
  exact (ess_cons (es_set 2 hN (ee_if (et_cmp o_lt (er_pk 1) (er_of (ee_cb cb_len rfl F.n_len (eb_cons (er_pk 0) eb_nil)))) (ee_ix hu (er_pk 0) (er_pk 1)) (ee_op o_add (er_of (ee_op o_add (er_of (ee_op o_mod (er_of (ee_cb (cb_sum rfl) rfl F.n_sum (eb_cons (er_of (ee_sl (er_pk 0) eo_n (eo_s ee_int))) eb_nil))) (er_of ee_int))) (er_of (ee_op o_mul (er_of ee_int) (er_pk 1))))) (er_of ee_int))))
    (ess_cons (es_set 3 hN (ee_op o_mul (er_of (ee_op o_mod (er_of (ee_cbT cb_int rfl F.n_int (eb_cons (er_of (ee_cb cb_abs rfl F.n_abs (eb_cons (er_pk 2) eb_nil))) eb_nil))) (er_of (ee_op o_pow (er_of (ee_op o_pow (er_of ee_int) (er_of ee_int))) (er_of ee_int))))) (er_of (ee_cbT cb_int rfl F.n_int (eb_cons (er_of (ee_cmp o_ge (er_of (ee_cb cb_abs rfl F.n_abs (eb_cons (er_pk 2) eb_nil))) (er_of (ee_op o_pow (er_of ee_int) (er_of ee_int))))) eb_nil)))))
    (ess_cons (es_set 4 hN (ee_op o_mod (er_of (ee_cbT cb_int rfl F.n_int (eb_cons (er_pk 2) eb_nil))) (er_of ee_int)))
    (ess_one (es_ret (ee_bx (en_lst (ea_cons (ee_vr 3) (ea_cons (ee_op o_mod (er_of (ee_cbT cb_int rfl F.n_int (eb_cons (er_of (ee_op o_add (er_of (ee_op o_add (er_of (ee_op o_mul (er_pk 4) (er_of ee_int))) (er_of (ee_op o_mul (er_of (ee_op o_mul (er_of ee_int) (er_pk 1))) (er_pk 1))))) (er_of ee_int))) eb_nil))) (er_of ee_int)) (ea_cons ee_int ea_nil))))))))))))
noncomputable def b__law_merges : MS :=
  (sSeq (sOwn 2 (nLst (aC (nTup aN) aN))) (sSeq (sFor (iR1 (aC (m2 gAdd (pk 0) (pk 1)) aN)) (gN 3) (sSeq (sOwn 4 (nLst aN)) (sSeq (sFor (iV (vr 2)) (gN 5) (sSeq (sDrop (mMt kL fExtend (pk 4) (aC (vIf (mB (m2 gLt (oD (mMt2 kL kT (fSame false (fFind iCnt)) (fSame true (fFind iCnt)) (pk 5) (aC (cs (.int 0)) aN))) (pk 0))) (nFz (nLst (aC (m2 gAdd (pk 5) (oD (nTup (aC (cs (.int 0)) aN)))) aN))) (nFz (nLst aN))) aN))) (sDrop (mMt kL fExtend (pk 4) (aC (vIf (mB (m2 gLt (oD (mMt2 kL kT (fSame false (fFind iCnt)) (fSame true (fFind iCnt)) (pk 5) (aC (cs (.int 1)) aN))) (pk 1))) (nFz (nLst (aC (m2 gAdd (pk 5) (oD (nTup (aC (cs (.int 1)) aN)))) aN))) (nFz (nLst aN))) aN))))) (sSet 2 (vr 4))))) (sRet (nFz (nCb gSrt (aC (pk 2) aN))))))
noncomputable def f__law_merges : FD := (relF (runB 2 6 (b__law_merges)))
theorem sc__law_merges : FnScope ["first", "second", "found", "lap", "longer", "row"] ["first", "second"] (defScope s41) := ⟨rfl, rfl, rfl, by decide +kernel, rfl, by decide +kernel, by decide +kernel⟩
theorem ok__law_merges {P : Program} {w : World} {K : PySem.W.Frag} {mg : Str → Option Value} {base : Heap} (F : HF K mg base) : FOk P w K mg base 1 (He.fAd K ("_law_merges", none)) ["first", "second"] f__law_merges := FOk.rel (fok (k := 0) (F.c.def_ 31) sc__law_merges (fun _ _ _ _ _ _ us hl => match us, hl with | [_, _], _ => rfl) (fun cdv A outer s H E hr => by
  have hu := hr.units
  have hN := sc__law_merges.nd
  exact (ess_cons (es_own 2 hN (en_lst (ea_cons (ee_tup ea_nil) ea_nil)))
    (ess_cons (es_for owns rfl (ei_r1 rfl F.n_range (ea_cons (ee_op o_add (er_pk 0) (er_pk 1)) ea_nil)) (eg_n 3 hN)
    (ess_cons (es_own 4 hN (en_lst ea_nil))
    (ess_cons (es_for owns rfl (ei_v (ee_vr 2)) (eg_n 5 hN)
    (ess_cons (es_expr (ee_mt ms_extend (er_pk 4) (ea_cons (ee_if (et_cmp o_lt (er_of (ee_mt2 (ms_countL hu) (ms_countT hu) (er_pk 5) (ea_cons ee_int ea_nil))) (er_pk 0)) (ee_fz (en_lst (ea_cons (ee_op o_add (er_pk 5) (er_of (ee_tup (ea_cons ee_int ea_nil)))) ea_nil))) (ee_fz (en_lst ea_nil))) ea_nil)))
    (ess_one (es_expr (ee_mt ms_extend (er_pk 4) (ea_cons (ee_if (et_cmp o_lt (er_of (ee_mt2 (ms_countL hu) (ms_countT hu) (er_pk 5) (ea_cons ee_int ea_nil))) (er_pk 1)) (ee_fz (en_lst (ea_cons (ee_op o_add (er_pk 5) (er_of (ee_tup (ea_cons ee_int ea_nil)))) ea_nil))) (ee_fz (en_lst ea_nil))) ea_nil))))))
    (ess_one (es_set 2 hN (ee_vr 4))))))
    (ess_one (es_ret (ee_fz (en_cb (co_srt rfl hu) rfl F.n_sorted (eb_cons (er_pk 2) eb_nil)))))))))
noncomputable def b__law_table : MS :=
  (sSeq (sOwn 3 (nDct true)) (sSeq (sFor (iV (vr 0)) (gN 4) (sSeq (sOwn 5 (nLc (iV (nTup (aC (cs (.int 0)) (aC (cs (.int 1)) aN)))) (gN 9) tYs (nFz (nLc (iEnA (vr 4)) (gT 2 (gsC (gN 10) (gsC (gN 11) gsN))) (mB (m2 (gEq false) (pk 11) (pk 9))) (vr 10) [10, 11])) [9])) (sSeq (sOwn 6 (nDct true)) (sSeq (sFor (iR1 (aC (vr 1) aN)) (gN 7) (sFor (iR1 (aC (vr 2) aN)) (gN 8) (sAsg (m2 gLt (oD (m2 gIx (oD (m2 gIx (pk 5) (oD (cs (.int 0))))) (pk 7))) (oD (m2 gIx (oD (m2 gIx (pk 5) (oD (cs (.int 1))))) (pk 8)))) (gSb (pk 6) (nTup (aC (mCb gInt (aC (pk 7) aN)) (aC (mCb gInt (aC (pk 8) aN)) aN))))))) (sAsg (vr 6) (gSb (pk 3) (vr 4))))))) (sRet (vr 3))))
noncomputable def f__law_table : FD := (relF (runB 3 12 (b__law_table)))
theorem sc__law_table : FnScope ["every", "first", "second", "found", "merge", "spots", "rows", "at", "to", "side", "place", "own"] ["every", "first", "second"] (defScope s42) := ⟨rfl, rfl, rfl, by decide +kernel, rfl, by decide +kernel, by decide +kernel⟩
theorem ok__law_table {P : Program} {w : World} {K : PySem.W.Frag} {mg : Str → Option Value} {base : Heap} (F : HF K mg base) : FOk P w K mg base 1 (He.fAd K ("_law_table", none)) ["every", "first", "second"] f__law_table := FOk.rel (fok (k := 0) (F.c.def_ 32) sc__law_table (fun _ _ _ _ _ _ us hl => match us, hl with | [_, _, _], _ => rfl) (fun cdv A outer s H E hr => by
  have hu := hr.units
  have hN := sc__law_table.nd
  exact (ess_cons (es_own 3 hN en_dN)
    (ess_cons (es_for owns rfl (ei_v (ee_vr 0)) (eg_n 4 hN)
    (ess_cons (es_ownLc (own := [("side", 9)]) 5 rfl hN (ei_v (ee_tup (ea_cons ee_int (ea_cons ee_int ea_nil)))) (blkOk_by (N := ["every", "first", "second", "found", "merge", "spots", "rows", "at", "to", "side", "place", "own"]) (sc := (defScope s42)) (own := [("side", 9)]) (by decide +kernel)) (fun _ _ _ _ _ => (eg_n 9 hN)) (fun _ _ _ _ _ => ets_nil) (fun _ _ _ _ _ => (ee_fz (en_lc (own := [("place", 10), ("own", 11)]) rfl hN (ei_enA rfl F.n_enumerate (ee_vr 4)) (blkOk_by (N := ["every", "first", "second", "found", "merge", "spots", "rows", "at", "to", "side", "place", "own"]) (sc := (relS _ (defScope s42))) (own := [("place", 10), ("own", 11)]) (by decide +kernel)) (fun _ _ _ _ _ => (eg_t rfl (egs_cons (eg_n 10 hN) (egs_cons (eg_n 11 hN) egs_nil)))) (fun _ _ _ _ _ => (ets_one (et_cmp (o_eq hu) (er_pk 11) (er_pk 9)))) (fun _ _ _ _ _ => (ee_vr 10))))) (sw_true rfl rfl rfl rfl))
    (ess_cons (es_own 6 hN en_dN)
    (ess_cons (es_for owns rfl (ei_r1 rfl F.n_range (ea_cons (ee_vr 1) ea_nil)) (eg_n 7 hN)
    (ess_one (es_for owns rfl (ei_r1 rfl F.n_range (ea_cons (ee_vr 2) ea_nil)) (eg_n 8 hN)
    (ess_one (es_asg (ee_cmp o_lt (er_of (ee_ix hu (er_of (ee_ix hu (er_pk 5) (er_of ee_int))) (er_pk 7))) (er_of (ee_ix hu (er_of (ee_ix hu (er_pk 5) (er_of ee_int))) (er_pk 8)))) (eg_sb hu (er_pk 6) (ee_tup (ea_cons (ee_cbT cb_int rfl F.n_int (eb_cons (er_pk 7) eb_nil)) (ea_cons (ee_cbT cb_int rfl F.n_int (eb_cons (er_pk 8) eb_nil)) ea_nil)))))))))
    (ess_one (es_asg (ee_vr 6) (eg_sb hu (er_pk 3) (ee_vr 4))))))))
    (ess_one (es_ret (ee_vr 3)))))))
noncomputable def b__law_useful : MS :=
  (sSeq (sOwn 2 (nLst aN)) (sSeq (sFor (iV (nFz (nCb gSrt (aC (oD (m2 gIx (pk 0) (oD (m2 gIx (pk 1) (oD (cs (.int 0))))))) aN)))) (gN 3) (sSeq (sSet 4 (mCb gLen (aC (oD (nFz (nLc (iV (vr 1)) (gN 5) (mB (m2 gIx (oD (m2 gIx (pk 0) (pk 5))) (pk 3))) (cs (.int 1)) [5]))) aN))) (sDrop (mMt kL fExtend (pk 2) (aC (vIf (mB (mCh gLt gLt (oD (cs (.int 0))) (pk 4) (oD (mCb gLen (aC (pk 1) aN))))) (nFz (nLst (aC (nTup (aC (vr 3) (aC (vr 4) aN))) aN))) (nFz (nLst aN))) aN))))) (sRet (vr 2))))
noncomputable def f__law_useful : FD := (relF (runB 2 6 (b__law_useful)))
theorem sc__law_useful : FnScope ["table", "some", "found", "pair", "many", "merge"] ["table", "some"] (defScope s43) := ⟨rfl, rfl, rfl, by decide +kernel, rfl, by decide +kernel, by decide +kernel⟩
theorem ok__law_useful {P : Program} {w : World} {K : PySem.W.Frag} {mg : Str → Option Value} {base : Heap} (F : HF K mg base) : FOk P w K mg base 1 (He.fAd K ("_law_useful", none)) ["table", "some"] f__law_useful := FOk.rel (fok (k := 0) (F.c.def_ 33) sc__law_useful (fun _ _ _ _ _ _ us hl => match us, hl with | [_, _], _ => rfl) (fun cdv A outer s H E hr => by
  have hu := hr.units
  have hN := sc__law_useful.nd
  exact (ess_cons (es_own 2 hN (en_lst ea_nil))
    (ess_cons (es_for owns rfl (ei_v (ee_fz (en_cb (co_srt rfl hu) rfl F.n_sorted (eb_cons (er_of (ee_ix hu (er_pk 0) (er_of (ee_ix hu (er_pk 1) (er_of ee_int))))) eb_nil)))) (eg_n 3 hN)
    (ess_cons (es_set 4 hN (ee_cb cb_len rfl F.n_len (eb_cons (er_of (ee_fz (en_lc (own := [("merge", 5)]) rfl hN (ei_v (ee_vr 1)) (blkOk_by (N := ["table", "some", "found", "pair", "many", "merge"]) (sc := (defScope s43)) (own := [("merge", 5)]) (by decide +kernel)) (fun _ _ _ _ _ => (eg_n 5 hN)) (fun _ _ _ _ _ => (ets_one (et_val (ee_ix hu (er_of (ee_ix hu (er_pk 0) (er_pk 5))) (er_pk 3))))) (fun _ _ _ _ _ => ee_int)))) eb_nil)))
    (ess_one (es_expr (ee_mt ms_extend (er_pk 2) (ea_cons (ee_if (et_ch o_lt o_lt (er_of ee_int) (er_pk 4) (er_of (ee_cb cb_len rfl F.n_len (eb_cons (er_pk 1) eb_nil)))) (ee_fz (en_lst (ea_cons (ee_tup (ea_cons (ee_vr 3) (ea_cons (ee_vr 4) ea_nil))) ea_nil))) (ee_fz (en_lst ea_nil))) ea_nil))))))
    (ess_one (es_ret (ee_vr 2)))))))
noncomputable def b__law_asking (g : FD) : MS :=
  (sSeq (sIf (mB (m2 (gEq false) (oD (mCb gLen (aC (pk 2) aN))) (oD (cs (.int 1))))) (sRet (nTup (aC (cs (.str "merged")) (aC (m2 gIx (pk 2) (oD (cs (.int 0)))) aN)))) sNx) (sSeq (sSet 4 (mCall f__law_useful [] (aC (vr 1) (aC (vr 2) aN)))) (sSeq (sSet 5 (vIf (mB (m2 (gEq false) (pk 3) (oD (cs (.int 0))))) (m2 gIx (oD (m2 gIx (pk 4) (oD (cs (.int 0))))) (oD (cs (.int 0)))) (m2 gIx (oD (mCall f__law_of [] (aC (vr 0) (aC (vr 4) aN)))) (oD (cs (.int 0)))))) (sSeq (sIf (mB (m2 (gEq false) (pk 3) (oD (cs (.int 1))))) (sSeq (sOwn 9 (nLc (iV (vr 4)) (gT 2 (gsC (gN 12) (gsC (gN 13) gsN))) tYs (mCb gAbs (aC (oD (m2 gSub (oD (m2 gMul (oD (cs (.int 2))) (pk 13))) (oD (mCb gLen (aC (pk 2) aN))))) aN)) [12, 13])) (sSet 5 (m2 gIx (oD (m2 gIx (pk 4) (oD (mMt2 kL kT (fSame false (fFind iIdx)) (fSame true (fFind iIdx)) (pk 9) (aC (mCb (gMM PySem.W.minD) (aC (pk 9) aN)) aN))))) (oD (cs (.int 0)))))) sNx) (sSeq (sOwn 6 (nLc (iV (vr 2)) (gN 10) (mB (m2 gIx (oD (m2 gIx (pk 1) (pk 10))) (pk 5))) (vr 10) [10])) (sSeq (sOwn 7 (nLc (iV (vr 2)) (gN 10) (tNot (mB (m2 gIx (oD (m2 gIx (pk 1) (pk 10))) (pk 5)))) (vr 10) [10])) (sSeq (sOwn 8 (nLc (iV (nTup (aC (vr 6) (aC (vr 7) aN)))) (gN 11) tYs (mCall g [] (aC (vr 0) (aC (vr 1) (aC (vr 11) (aC (vr 3) aN))))) [11])) (sRet (nTup (aC (cs (.str "compare")) (aC (m2 gIx (pk 5) (oD (cs (.int 0)))) (aC (m2 gIx (pk 5) (oD (cs (.int 1)))) (aC (m2 gIx (pk 8) (oD (cs (.int 0)))) (aC (m2 gIx (pk 8) (oD (cs (.int 1)))) aN))))))))))))))
noncomputable def f__law_asking : Nat → FD
  | 0 => fun _ _ => none
  | n + 1 => (relF (runB 4 14 (b__law_asking (f__law_asking n))))
theorem sc__law_asking : FnScope ["pot", "table", "some", "way", "pairs", "pair", "less", "more", "parts", "gaps", "merge", "rest", "one", "many"] ["pot", "table", "some", "way"] (defScope s44) := ⟨rfl, rfl, rfl, by decide +kernel, rfl, by decide +kernel, by decide +kernel⟩
theorem ok__law_asking {P : Program} {w : World} {K : PySem.W.Frag} {mg : Str → Option Value} {base : Heap} (F : HF K mg base) : ∀ n, FOk P w K mg base (3 + n) (He.fAd K ("_law_asking", none)) ["pot", "table", "some", "way"] (f__law_asking n)
  | 0 => fok0 (F.c.def_ 34) (fun _ _ _ _ _ _ us hl => match us, hl with | [_, _, _, _], _ => rfl)
  | n + 1 => by
    have hg := ok__law_asking (P := P) (w := w) F n
    exact FOk.rel (fok (k := 3 + n) (F.c.def_ 34) sc__law_asking (fun _ _ _ _ _ _ us hl => match us, hl with | [_, _, _, _], _ => rfl) (fun cdv A outer s H E hr => by
        have hu := hr.units
        have hN := sc__law_asking.nd
        exact (ess_cons (es_if (et_cmp (o_eq hu) (er_of (ee_cb cb_len rfl F.n_len (eb_cons (er_pk 2) eb_nil))) (er_of ee_int))
          (ess_one (es_ret (ee_tup (ea_cons ee_str (ea_cons (ee_ix hu (er_pk 2) (er_of ee_int)) ea_nil)))))
          ess_nil)
          (ess_cons (es_set 4 hN (ee_F (ok__law_useful F) hr (by omega) rfl (F.m__law_useful) (ea_cons (ee_vr 1) (ea_cons (ee_vr 2) ea_nil))))
          (ess_cons (es_set 5 hN (ee_if (et_cmp (o_eq hu) (er_pk 3) (er_of ee_int)) (ee_ix hu (er_of (ee_ix hu (er_pk 4) (er_of ee_int))) (er_of ee_int)) (ee_ix hu (er_of (ee_F (ok__law_of F) hr (by omega) rfl (F.m__law_of) (ea_cons (ee_vr 0) (ea_cons (ee_vr 4) ea_nil)))) (er_of ee_int))))
          (ess_cons (es_if (et_cmp (o_eq hu) (er_pk 3) (er_of ee_int))
          (ess_cons (es_ownLc (own := [("one", 12), ("many", 13)]) 9 rfl hN (ei_v (ee_vr 4)) (blkOk_by (N := ["pot", "table", "some", "way", "pairs", "pair", "less", "more", "parts", "gaps", "merge", "rest", "one", "many"]) (sc := (defScope s44)) (own := [("one", 12), ("many", 13)]) (by decide +kernel)) (fun _ _ _ _ _ => (eg_t rfl (egs_cons (eg_n 12 hN) (egs_cons (eg_n 13 hN) egs_nil)))) (fun _ _ _ _ _ => ets_nil) (fun _ _ _ _ _ => (ee_cb cb_abs rfl F.n_abs (eb_cons (er_of (ee_op o_sub (er_of (ee_op o_mul (er_of ee_int) (er_pk 13))) (er_of (ee_cb cb_len rfl F.n_len (eb_cons (er_pk 2) eb_nil))))) eb_nil))) (sw_true rfl rfl rfl rfl))
          (ess_one (es_set 5 hN (ee_ix hu (er_of (ee_ix hu (er_pk 4) (er_of (ee_mt2 (ms_indexL hu) (ms_indexT hu) (er_pk 9) (ea_cons (ee_cb (cb_minD rfl hu) rfl F.n_min (eb_cons (er_pk 9) eb_nil)) ea_nil))))) (er_of ee_int)))))
          ess_nil)
          (ess_cons (es_ownLc (own := [("merge", 10)]) 6 rfl hN (ei_v (ee_vr 2)) (blkOk_by (N := ["pot", "table", "some", "way", "pairs", "pair", "less", "more", "parts", "gaps", "merge", "rest", "one", "many"]) (sc := (defScope s44)) (own := [("merge", 10)]) (by decide +kernel)) (fun _ _ _ _ _ => (eg_n 10 hN)) (fun _ _ _ _ _ => (ets_one (et_val (ee_ix hu (er_of (ee_ix hu (er_pk 1) (er_pk 10))) (er_pk 5))))) (fun _ _ _ _ _ => (ee_vr 10)) (sw_true rfl rfl rfl rfl))
          (ess_cons (es_ownLc (own := [("merge", 10)]) 7 rfl hN (ei_v (ee_vr 2)) (blkOk_by (N := ["pot", "table", "some", "way", "pairs", "pair", "less", "more", "parts", "gaps", "merge", "rest", "one", "many"]) (sc := (defScope s44)) (own := [("merge", 10)]) (by decide +kernel)) (fun _ _ _ _ _ => (eg_n 10 hN)) (fun _ _ _ _ _ => (ets_one (et_not (et_val (ee_ix hu (er_of (ee_ix hu (er_pk 1) (er_pk 10))) (er_pk 5)))))) (fun _ _ _ _ _ => (ee_vr 10)) (sw_true rfl rfl rfl rfl))
          (ess_cons (es_ownLc (own := [("rest", 11)]) 8 rfl hN (ei_v (ee_tup (ea_cons (ee_vr 6) (ea_cons (ee_vr 7) ea_nil)))) (blkOk_by (N := ["pot", "table", "some", "way", "pairs", "pair", "less", "more", "parts", "gaps", "merge", "rest", "one", "many"]) (sc := (defScope s44)) (own := [("rest", 11)]) (by decide +kernel)) (fun _ _ _ _ _ => (eg_n 11 hN)) (fun _ _ _ _ _ => ets_nil) (fun _ _ _ _ _ => (ee_F hg hr (by omega) rfl (F.m__law_asking) (ea_cons (ee_vr 0) (ea_cons (ee_vr 1) (ea_cons (ee_vr 11) (ea_cons (ee_vr 3) ea_nil)))))) (sw_true rfl rfl rfl rfl))
          (ess_one (es_ret (ee_tup (ea_cons ee_str (ea_cons (ee_ix hu (er_pk 5) (er_of ee_int)) (ea_cons (ee_ix hu (er_pk 5) (er_of ee_int)) (ea_cons (ee_ix hu (er_pk 8) (er_of ee_int)) (ea_cons (ee_ix hu (er_pk 8) (er_of ee_int)) ea_nil)))))))))))))))))
noncomputable def b__law_led : MS :=
  (sSeq (sParA [4, 5] (avO (nLst aN) (avV (vr 1) avN))) (sSeq (sFor (iR1 (aC (cs (.int 30)) aN)) (gN 3) (sIf (mB (m2 (gEq false) (oD (m2 gIx (pk 5) (oD (cs (.int 0))))) (oD (cs (.str "compare"))))) (sSeq (sSet 6 (m2 gIx (oD (m2 gIx (pk 0) (pk 2))) (oD (mSl (pk 5) (oS (cs (.int 1))) (oS (cs (.int 3))))))) (sSeq (sDrop (mMt kL fAppend (pk 4) (aC (nTup (aC (m2 gIx (pk 5) (oD (cs (.int 1)))) (aC (m2 gIx (pk 5) (oD (cs (.int 2)))) (aC (vIf (mB (vr 6)) (m1 gNeg (oD (cs (.int 1)))) (cs (.int 1))) aN)))) aN))) (sSet 5 (vIf (mB (vr 6)) (m2 gIx (pk 5) (oD (cs (.int 3)))) (m2 gIx (pk 5) (oD (cs (.int 4)))))))) sNx)) (sRet (nTup (aC (mCb gTuple (aC (pk 4) aN)) (aC (vr 5) aN))))))
noncomputable def f__law_led : FD := (relF (runB 3 7 (b__law_led)))
theorem sc__law_led : FnScope ["table", "asking", "merge", "lap", "found", "here", "is_less_v"] ["table", "asking", "merge"] (defScope s45) := ⟨rfl, rfl, rfl, by decide +kernel, rfl, by decide +kernel, by decide +kernel⟩
theorem ok__law_led {P : Program} {w : World} {K : PySem.W.Frag} {mg : Str → Option Value} {base : Heap} (F : HF K mg base) : FOk P w K mg base 1 (He.fAd K ("_law_led", none)) ["table", "asking", "merge"] f__law_led := FOk.rel (fok (k := 0) (F.c.def_ 35) sc__law_led (fun _ _ _ _ _ _ us hl => match us, hl with | [_, _, _], _ => rfl) (fun cdv A outer s H E hr => by
  have hu := hr.units
  have hN := sc__law_led.nd
  exact (ess_cons (es_par2 4 5 rfl hN (ev_o (en_lst ea_nil) (ev_v (ee_vr 1) ev_nil)))
    (ess_cons (es_for owns rfl (ei_r1 rfl F.n_range (ea_cons ee_int ea_nil)) (eg_n 3 hN)
    (ess_one (es_if (et_cmp (o_eq hu) (er_of (ee_ix hu (er_pk 5) (er_of ee_int))) (er_of ee_str))
    (ess_cons (es_set 6 hN (ee_ix hu (er_of (ee_ix hu (er_pk 0) (er_pk 2))) (er_of (ee_sl (er_pk 5) (eo_s ee_int) (eo_s ee_int)))))
    (ess_cons (es_expr (ee_mt ms_append (er_pk 4) (ea_cons (ee_tup (ea_cons (ee_ix hu (er_pk 5) (er_of ee_int)) (ea_cons (ee_ix hu (er_pk 5) (er_of ee_int)) (ea_cons (ee_if (et_val (ee_vr 6)) (ee_un o_neg (er_of ee_int)) ee_int) ea_nil)))) ea_nil)))
    (ess_one (es_set 5 hN (ee_if (et_val (ee_vr 6)) (ee_ix hu (er_pk 5) (er_of ee_int)) (ee_ix hu (er_pk 5) (er_of ee_int)))))))
    ess_nil)))
    (ess_one (es_ret (ee_tup (ea_cons (ee_cbT cb_tuple rfl F.n_tuple (eb_cons (er_pk 4) eb_nil)) (ea_cons (ee_vr 5) ea_nil)))))))))
noncomputable def b__law_heads : MS :=
  (sSeq (sParA [4, 5, 6] (avO (nLst aN) (avV (cs (.int 0)) (avV (cs (.int 0)) avN)))) (sSeq (sFor (iV (vr 0)) (gN 3) (sSeq (sIf (tAnd (mB (m2 gLt (pk 5) (pk 1))) (mB (m2 gLt (pk 6) (pk 2)))) (sDrop (mMt kL fAppend (pk 4) (aC (nTup (aC (mCb gInt (aC (pk 5) aN)) (aC (mCb gInt (aC (pk 6) aN)) (aC (vIf (mB (m2 (gEq false) (pk 3) (oD (cs (.int 0))))) (m1 gNeg (oD (cs (.int 1)))) (cs (.int 1))) aN)))) aN))) sNx) (sParA [5, 6] (avV (m2 gAdd (pk 5) (oD (mCb gInt (aC (oD (m2 (gEq false) (pk 3) (oD (cs (.int 0))))) aN)))) (avV (m2 gAdd (pk 6) (oD (mCb gInt (aC (oD (m2 (gEq false) (pk 3) (oD (cs (.int 1))))) aN)))) avN))))) (sRet (mCb gTuple (aC (pk 4) aN)))))
noncomputable def f__law_heads : FD := (relF (runB 3 7 (b__law_heads)))
theorem sc__law_heads : FnScope ["merge", "first", "second", "own", "found", "at", "to"] ["merge", "first", "second"] (defScope s46) := ⟨rfl, rfl, rfl, by decide +kernel, rfl, by decide +kernel, by decide +kernel⟩
theorem ok__law_heads {P : Program} {w : World} {K : PySem.W.Frag} {mg : Str → Option Value} {base : Heap} (F : HF K mg base) : FOk P w K mg base 1 (He.fAd K ("_law_heads", none)) ["merge", "first", "second"] f__law_heads := FOk.rel (fok (k := 0) (F.c.def_ 36) sc__law_heads (fun _ _ _ _ _ _ us hl => match us, hl with | [_, _, _], _ => rfl) (fun cdv A outer s H E hr => by
  have hu := hr.units
  have hN := sc__law_heads.nd
  exact (ess_cons (es_par3 4 5 6 rfl hN (ev_o (en_lst ea_nil) (ev_v ee_int (ev_v ee_int ev_nil))))
    (ess_cons (es_for owns rfl (ei_v (ee_vr 0)) (eg_n 3 hN)
    (ess_cons (es_if (et_w (ew_and (et_cmp o_lt (er_pk 5) (er_pk 1)) (ew_and1 (et_cmp o_lt (er_pk 6) (er_pk 2)))))
    (ess_one (es_expr (ee_mt ms_append (er_pk 4) (ea_cons (ee_tup (ea_cons (ee_cbT cb_int rfl F.n_int (eb_cons (er_pk 5) eb_nil)) (ea_cons (ee_cbT cb_int rfl F.n_int (eb_cons (er_pk 6) eb_nil)) (ea_cons (ee_if (et_cmp (o_eq hu) (er_pk 3) (er_of ee_int)) (ee_un o_neg (er_of ee_int)) ee_int) ea_nil)))) ea_nil))))
    ess_nil)
    (ess_one (es_par2 5 6 rfl hN (ev_v (ee_op o_add (er_pk 5) (er_of (ee_cbT cb_int rfl F.n_int (eb_cons (er_of (ee_cmp (o_eq hu) (er_pk 3) (er_of ee_int))) eb_nil)))) (ev_v (ee_op o_add (er_pk 6) (er_of (ee_cbT cb_int rfl F.n_int (eb_cons (er_of (ee_cmp (o_eq hu) (er_pk 3) (er_of ee_int))) eb_nil)))) ev_nil))))))
    (ess_one (es_ret (ee_cbT cb_tuple rfl F.n_tuple (eb_cons (er_pk 4) eb_nil))))))))
noncomputable def b__law_bent (g : FD) : MS :=
  (sSeq (sIf (mB (m2 (gEq false) (oD (m2 gIx (pk 1) (oD (cs (.int 0))))) (oD (cs (.str "merged"))))) (sRet (nTup (aC (cs (.str "merged")) (aC (m2 gAdd (oD (mRev (oD (m2 gIx (pk 1) (oD (cs (.int 1))))))) (oD (nTup (aC (cs (.int 0)) aN)))) aN)))) sNx) (sSeq (sSet 2 (mCall f__law_take [] (aC (vr 0) (aC (cs (.int 4)) aN)))) (sSeq (sIf (mB (m2 (gEq false) (pk 2) (oD (cs (.int 0))))) (sRet (nTup (aC (cs (.str "compare")) (aC (m2 gIx (pk 1) (oD (cs (.int 1)))) (aC (m2 gIx (pk 1) (oD (cs (.int 2)))) (aC (m2 gIx (pk 1) (oD (cs (.int 4)))) (aC (m2 gIx (pk 1) (oD (cs (.int 3)))) aN))))))) sNx) (sSeq (sIf (mB (m2 (gEq false) (pk 2) (oD (cs (.int 1))))) (sRet (nTup (aC (cs (.str "compare")) (aC (m2 gAdd (oD (m2 gIx (pk 1) (oD (cs (.int 1))))) (oD (cs (.int 9)))) (aC (m2 gIx (pk 1) (oD (cs (.int 2)))) (aC (m2 gIx (pk 1) (oD (cs (.int 3)))) (aC (m2 gIx (pk 1) (oD (cs (.int 4)))) aN))))))) sNx) (sSeq (sSet 3 (m2 gAdd (oD (cs (.int 3))) (oD (mCall f__law_take [] (aC (vr 0) (aC (cs (.int 2)) aN)))))) (sRet (m2 gAdd (oD (m2 gAdd (oD (mSl (pk 1) oN (oS (vr 3)))) (oD (nTup (aC (mCall g [] (aC (vr 0) (aC (m2 gIx (pk 1) (pk 3)) aN))) aN))))) (oD (mSl (pk 1) (oS (m2 gAdd (pk 3) (oD (cs (.int 1))))) oN)))))))))
noncomputable def f__law_bent : Nat → FD
  | 0 => fun _ _ => none
  | n + 1 => (relF (runB 2 4 (b__law_bent (f__law_bent n))))
theorem sc__law_bent : FnScope ["pot", "asking", "way", "at"] ["pot", "asking"] (defScope s47) := ⟨rfl, rfl, rfl, by decide +kernel, rfl, by decide +kernel, by decide +kernel⟩
theorem ok__law_bent {P : Program} {w : World} {K : PySem.W.Frag} {mg : Str → Option Value} {base : Heap} (F : HF K mg base) : ∀ n, FOk P w K mg base (2 + n) (He.fAd K ("_law_bent", none)) ["pot", "asking"] (f__law_bent n)
  | 0 => fok0 (F.c.def_ 37) (fun _ _ _ _ _ _ us hl => match us, hl with | [_, _], _ => rfl)
  | n + 1 => by
    have hg := ok__law_bent (P := P) (w := w) F n
    exact FOk.rel (fok (k := 2 + n) (F.c.def_ 37) sc__law_bent (fun _ _ _ _ _ _ us hl => match us, hl with | [_, _], _ => rfl) (fun cdv A outer s H E hr => by
        have hu := hr.units
        have hN := sc__law_bent.nd
        exact (ess_cons (es_if (et_cmp (o_eq hu) (er_of (ee_ix hu (er_pk 1) (er_of ee_int))) (er_of ee_str))
          (ess_one (es_ret (ee_tup (ea_cons ee_str (ea_cons (ee_op o_add (er_of (ee_rev (er_of (ee_ix hu (er_pk 1) (er_of ee_int))))) (er_of (ee_tup (ea_cons ee_int ea_nil)))) ea_nil)))))
          ess_nil)
          (ess_cons (es_set 2 hN (ee_F (ok__law_take F) hr (by omega) rfl (F.m__law_take) (ea_cons (ee_vr 0) (ea_cons ee_int ea_nil))))
          (ess_cons (es_if (et_cmp (o_eq hu) (er_pk 2) (er_of ee_int))
          (ess_one (es_ret (ee_tup (ea_cons ee_str (ea_cons (ee_ix hu (er_pk 1) (er_of ee_int)) (ea_cons (ee_ix hu (er_pk 1) (er_of ee_int)) (ea_cons (ee_ix hu (er_pk 1) (er_of ee_int)) (ea_cons (ee_ix hu (er_pk 1) (er_of ee_int)) ea_nil))))))))
          ess_nil)
          (ess_cons (es_if (et_cmp (o_eq hu) (er_pk 2) (er_of ee_int))
          (ess_one (es_ret (ee_tup (ea_cons ee_str (ea_cons (ee_op o_add (er_of (ee_ix hu (er_pk 1) (er_of ee_int))) (er_of ee_int)) (ea_cons (ee_ix hu (er_pk 1) (er_of ee_int)) (ea_cons (ee_ix hu (er_pk 1) (er_of ee_int)) (ea_cons (ee_ix hu (er_pk 1) (er_of ee_int)) ea_nil))))))))
          ess_nil)
          (ess_cons (es_set 3 hN (ee_op o_add (er_of ee_int) (er_of (ee_F (ok__law_take F) hr (by omega) rfl (F.m__law_take) (ea_cons (ee_vr 0) (ea_cons ee_int ea_nil))))))
          (ess_one (es_ret (ee_op o_add (er_of (ee_op o_add (er_of (ee_sl (er_pk 1) eo_n (eo_s (ee_vr 3)))) (er_of (ee_tup (ea_cons (ee_F hg hr (by omega) rfl (F.m__law_bent) (ea_cons (ee_vr 0) (ea_cons (ee_ix hu (er_pk 1) (er_pk 3)) ea_nil))) ea_nil))))) (er_of (ee_sl (er_pk 1) (eo_s (ee_op o_add (er_pk 3) (er_of ee_int))) eo_n))))))))))))
noncomputable def b__law_right : MS :=
  (sSeq (sParA [5, 6] (avV (mCb gInt (aC (oD (m2 gAdd (oD (cs (.int 1))) (oD (mCall f__law_take [] (aC (vr 0) (aC (cs (.int 3)) aN)))))) aN)) (avV (mCb gInt (aC (oD (m2 gAdd (oD (cs (.int 1))) (oD (mCall f__law_take [] (aC (vr 0) (aC (cs (.int 3)) aN)))))) aN)) avN))) (sSeq (sIf (mB (m2 (gEq false) (oD (mCall f__law_take [] (aC (vr 0) (aC (cs (.int 4)) aN)))) (oD (cs (.int 0))))) (sAsg (mCall f__law_of [] (aC (vr 0) (aC (nFz (nLst (aC (nTup (aC (cs (.int 5)) (aC (cs (.int 1)) aN))) (aC (nTup (aC (cs (.int 1)) (aC (cs (.int 5)) aN))) (aC (nTup (aC (cs (.int 4)) (aC (cs (.int 2)) aN))) (aC (nTup (aC (cs (.int 2)) (aC (cs (.int 4)) aN))) aN)))))) aN))) (gT 2 (gsC (gN 5) (gsC (gN 6) gsN)))) sNx) (sSeq (sSet 1 (mCall f__law_merges [] (aC (vr 5) (aC (vr 6) aN)))) (sSeq (sIf (mB (m2 (gEq true) (oD (mCall f_merges [] (aC (vr 5) (aC (vr 6) aN)))) (oD (mCb gTuple (aC (pk 1) aN))))) (sRet (cs (.bl false))) sNx) (sSeq (sSet 2 (mCall f__law_table [] (aC (vr 1) (aC (vr 5) (aC (vr 6) aN))))) (sSeq (sParA [7, 8] (avV (m2 gIx (oD (mCall f_fewest_comparisons [] (aC (vr 5) (aC (vr 6) aN)))) (oD (cs (.int 0)))) (avV (m2 gIx (oD (mCall f_least_comparisons [] (aC (vr 5) (aC (vr 6) aN)))) (oD (cs (.int 0)))) avN))) (sSeq (sFor (iV (nTup (aC (cs (.int 0)) (aC (cs (.int 1)) (aC (cs (.int 2)) aN))))) (gN 3) (sSeq (sSet 9 (mCall (f__law_asking 40) [] (aC (vr 0) (aC (vr 2) (aC (vr 1) (aC (vr 3) aN)))))) (sSeq (sIf (mB (m2 (gIs true) (oD (mCall f_is_merging [] (aC (vr 5) (aC (vr 6) (aC (vr 9) aN))))) (oD (cs (.bl true))))) (sRet (cs (.bl false))) sNx) (sSeq (sIf (mB (m2 (gIs true) (oD (mCall f_is_merging [] (aC (vr 5) (aC (vr 6) (aC (mCall (f__law_bent 40) [] (aC (vr 0) (aC (vr 9) aN))) aN))))) (oD (cs (.bl false))))) (sRet (cs (.bl false))) sNx) (sSeq (sOwn 10 (nLc (iV (vr 1)) (gN 4) tYs (mCall f__law_led [] (aC (vr 2) (aC (vr 9) (aC (vr 4) aN)))) [4])) (sSeq (sIf (tNot (mB (mCb (gAll false) (aC (oD (nFz (nLc (iZp (vr 10) (vr 1)) (gT 2 (gsC (gT 2 (gsC (gN 14) (gsC (gN 15) gsN))) (gsC (gN 4) gsN))) tYs (m2 (gEq false) (pk 15) (oD (nTup (aC (cs (.str "merged")) (aC (vr 4) aN))))) [4, 14, 15]))) aN)))) (sRet (cs (.bl false))) sNx) (sSeq (sParA [12, 13] (avV (mCb (gMM PySem.W.maxD) (aC (oD (nFz (nLc (iV (vr 10)) (gT 2 (gsC (gN 14) (gsC (gN 15) gsN))) tYs (mCb gLen (aC (pk 14) aN)) [14, 15]))) aN)) (avV (mCb gSum (aC (oD (nFz (nLc (iV (vr 10)) (gT 2 (gsC (gN 14) (gsC (gN 15) gsN))) tYs (mCb gLen (aC (pk 14) aN)) [14, 15]))) aN)) avN))) (sSeq (sSet 4 (mCall f__law_of [] (aC (vr 0) (aC (vr 1) aN)))) (sSeq (sIf (mB (m2 (gEq true) (oD (mCall f_compared_by [] (aC (vr 5) (aC (vr 6) (aC (vr 9) (aC (vr 4) aN)))))) (oD (m2 gIx (oD (mCall f__law_led [] (aC (vr 2) (aC (vr 9) (aC (vr 4) aN))))) (oD (cs (.int 0))))))) (sRet (cs (.bl false))) sNx) (sSeq (sIf (tOr (mB (m2 gLt (pk 12) (pk 7))) (mB (m2 gLt (pk 13) (pk 8)))) (sRet (cs (.bl false))) sNx) (sSeq (sIf (mB (m2 (gEq true) (oD (mCb gReprB (aC (oD (mCall f_shows_fewest_comparisons [] (aC (vr 5) (aC (vr 6) (aC (nTup (aC (vr 12) (aC (vr 9) aN))) aN))))) aN))) (oD (mCb gReprB (aC (oD (m2 (gEq false) (pk 12) (pk 7))) aN))))) (sRet (cs (.bl false))) sNx) (sIf (mB (m2 (gEq true) (oD (mCb gReprB (aC (oD (mCall f_shows_least_comparisons [] (aC (vr 5) (aC (vr 6) (aC (nTup (aC (vr 13) (aC (vr 9) aN))) aN))))) aN))) (oD (mCb gReprB (aC (oD (m2 (gEq false) (pk 13) (pk 8))) aN))))) (sRet (cs (.bl false))) sNx)))))))))))) (sSeq (sFor (iV (mCall f__law_some [] (aC (vr 0) (aC (vr 1) (aC (mCb gMin2 (aC (oD (mCb gLen (aC (pk 1) aN))) (aC (oD (cs (.int 5))) aN))) aN))))) (gN 4) (sSeq (sSet 11 (mCall f__law_heads [] (aC (vr 4) (aC (vr 5) (aC (vr 6) aN))))) (sIf (tOr (mB (m2 (gEq true) (oD (mCall f_by_heads [] (aC (vr 5) (aC (vr 6) (aC (vr 4) aN))))) (pk 11))) (mB (m2 gGt (oD (mCb gLen (aC (pk 11) aN))) (oD (m2 gSub (oD (m2 gAdd (pk 5) (pk 6))) (oD (cs (.int 1)))))))) (sRet (cs (.bl false))) sNx))) (sRet (vAnd (m2 (gEq false) (oD (m2 gIx (oD (mCall f_fewest_comparisons [] (aC (vr 6) (aC (vr 5) aN)))) (oD (cs (.int 0))))) (pk 7)) (m2 (gEq false) (oD (m2 gIx (oD (mCall f_least_comparisons [] (aC (vr 6) (aC (vr 5) aN)))) (oD (cs (.int 0))))) (pk 8))))))))))))
noncomputable def f__law_right : FD := (relF (runB 1 16 (b__law_right)))
theorem sc__law_right : FnScope ["pot", "every", "table", "way", "merge", "first", "second", "few", "least", "asking", "lots", "due", "most", "total", "asks", "end"] ["pot"] (defScope s48) := ⟨rfl, rfl, rfl, by decide +kernel, rfl, by decide +kernel, by decide +kernel⟩
theorem ok__law_right {P : Program} {w : World} {K : PySem.W.Frag} {mg : Str → Option Value} {base : Heap} (F : HF K mg base) : FOk P w K mg base 48 (He.fAd K ("_law_right", none)) ["pot"] f__law_right := FOk.rel (fok (k := 47) (F.c.def_ 38) sc__law_right (fun _ _ _ _ _ _ us hl => match us, hl with | [_], _ => rfl) (fun cdv A outer s H E hr => by
  have hu := hr.units
  have hN := sc__law_right.nd
  exact (ess_cons (es_par2 5 6 rfl hN (ev_v (ee_cbT cb_int rfl F.n_int (eb_cons (er_of (ee_op o_add (er_of ee_int) (er_of (ee_F (ok__law_take F) hr (by omega) rfl (F.m__law_take) (ea_cons (ee_vr 0) (ea_cons ee_int ea_nil)))))) eb_nil)) (ev_v (ee_cbT cb_int rfl F.n_int (eb_cons (er_of (ee_op o_add (er_of ee_int) (er_of (ee_F (ok__law_take F) hr (by omega) rfl (F.m__law_take) (ea_cons (ee_vr 0) (ea_cons ee_int ea_nil)))))) eb_nil)) ev_nil)))
    (ess_cons (es_if (et_cmp (o_eq hu) (er_of (ee_F (ok__law_take F) hr (by omega) rfl (F.m__law_take) (ea_cons (ee_vr 0) (ea_cons ee_int ea_nil)))) (er_of ee_int))
    (ess_one (es_asg (ee_F (ok__law_of F) hr (by omega) rfl (F.m__law_of) (ea_cons (ee_vr 0) (ea_cons (ee_fz (en_lst (ea_cons (ee_tup (ea_cons ee_int (ea_cons ee_int ea_nil))) (ea_cons (ee_tup (ea_cons ee_int (ea_cons ee_int ea_nil))) (ea_cons (ee_tup (ea_cons ee_int (ea_cons ee_int ea_nil))) (ea_cons (ee_tup (ea_cons ee_int (ea_cons ee_int ea_nil))) ea_nil)))))) ea_nil))) (eg_t rfl (egs_cons (eg_n 5 hN) (egs_cons (eg_n 6 hN) egs_nil)))))
    ess_nil)
    (ess_cons (es_set 1 hN (ee_F (ok__law_merges F) hr (by omega) rfl (F.m__law_merges) (ea_cons (ee_vr 5) (ea_cons (ee_vr 6) ea_nil))))
    (ess_cons (es_if (et_cmp (o_ne hu) (er_of (ee_F (ok_merges F) hr (by omega) rfl (F.m_merges) (ea_cons (ee_vr 5) (ea_cons (ee_vr 6) ea_nil)))) (er_of (ee_cbT cb_tuple rfl F.n_tuple (eb_cons (er_pk 1) eb_nil))))
    (ess_one (es_ret ee_bl))
    ess_nil)
    (ess_cons (es_set 2 hN (ee_F (ok__law_table F) hr (by omega) rfl (F.m__law_table) (ea_cons (ee_vr 1) (ea_cons (ee_vr 5) (ea_cons (ee_vr 6) ea_nil)))))
    (ess_cons (es_par2 7 8 rfl hN (ev_v (ee_ix hu (er_of (ee_F (ok_fewest_comparisons F) hr (by omega) rfl (F.m_fewest_comparisons) (ea_cons (ee_vr 5) (ea_cons (ee_vr 6) ea_nil)))) (er_of ee_int)) (ev_v (ee_ix hu (er_of (ee_F (ok_least_comparisons F) hr (by omega) rfl (F.m_least_comparisons) (ea_cons (ee_vr 5) (ea_cons (ee_vr 6) ea_nil)))) (er_of ee_int)) ev_nil)))
    (ess_cons (es_for owns rfl (ei_v (ee_tup (ea_cons ee_int (ea_cons ee_int (ea_cons ee_int ea_nil))))) (eg_n 3 hN)
    (ess_cons (es_set 9 hN (ee_F (ok__law_asking F 40) hr (by omega) rfl (F.m__law_asking) (ea_cons (ee_vr 0) (ea_cons (ee_vr 2) (ea_cons (ee_vr 1) (ea_cons (ee_vr 3) ea_nil))))))
    (ess_cons (es_if (et_cmp o_isn (er_of (ee_F (ok_is_merging F) hr (by omega) rfl (F.m_is_merging) (ea_cons (ee_vr 5) (ea_cons (ee_vr 6) (ea_cons (ee_vr 9) ea_nil))))) (er_of ee_bl))
    (ess_one (es_ret ee_bl))
    ess_nil)
    (ess_cons (es_if (et_cmp o_isn (er_of (ee_F (ok_is_merging F) hr (by omega) rfl (F.m_is_merging) (ea_cons (ee_vr 5) (ea_cons (ee_vr 6) (ea_cons (ee_F (ok__law_bent F 40) hr (by omega) rfl (F.m__law_bent) (ea_cons (ee_vr 0) (ea_cons (ee_vr 9) ea_nil))) ea_nil))))) (er_of ee_bl))
    (ess_one (es_ret ee_bl))
    ess_nil)
    (ess_cons (es_ownLc (own := [("merge", 4)]) 10 rfl hN (ei_v (ee_vr 1)) (blkOk_by (N := ["pot", "every", "table", "way", "merge", "first", "second", "few", "least", "asking", "lots", "due", "most", "total", "asks", "end"]) (sc := (defScope s48)) (own := [("merge", 4)]) (by decide +kernel)) (fun _ _ _ _ _ => (eg_n 4 hN)) (fun _ _ _ _ _ => ets_nil) (fun _ _ _ _ _ => (ee_F (ok__law_led F) hr (by omega) rfl (F.m__law_led) (ea_cons (ee_vr 2) (ea_cons (ee_vr 9) (ea_cons (ee_vr 4) ea_nil))))) (sw_true rfl rfl rfl rfl))
    (ess_cons (es_if (et_not (et_val (ee_cb (cb_all rfl) rfl F.n_all (eb_cons (er_of (ee_fz (en_lc (own := [("merge", 4), ("asks", 14), ("end", 15)]) rfl hN (ei_zp rfl F.n_zip (ee_vr 10) (ee_vr 1)) (blkOk_by (N := ["pot", "every", "table", "way", "merge", "first", "second", "few", "least", "asking", "lots", "due", "most", "total", "asks", "end"]) (sc := (defScope s48)) (own := [("merge", 4), ("asks", 14), ("end", 15)]) (by decide +kernel)) (fun _ _ _ _ _ => (eg_t rfl (egs_cons (eg_t rfl (egs_cons (eg_n 14 hN) (egs_cons (eg_n 15 hN) egs_nil))) (egs_cons (eg_n 4 hN) egs_nil)))) (fun _ _ _ _ _ => ets_nil) (fun _ _ _ _ _ => (ee_cmp (o_eq hu) (er_pk 15) (er_of (ee_tup (ea_cons ee_str (ea_cons (ee_vr 4) ea_nil))))))))) eb_nil))))
    (ess_one (es_ret ee_bl))
    ess_nil)
    (ess_cons (es_par2 12 13 rfl hN (ev_v (ee_cb (cb_maxD rfl hu) rfl F.n_max (eb_cons (er_of (ee_fz (en_lc (own := [("asks", 14), ("end", 15)]) rfl hN (ei_v (ee_vr 10)) (blkOk_by (N := ["pot", "every", "table", "way", "merge", "first", "second", "few", "least", "asking", "lots", "due", "most", "total", "asks", "end"]) (sc := (defScope s48)) (own := [("asks", 14), ("end", 15)]) (by decide +kernel)) (fun _ _ _ _ _ => (eg_t rfl (egs_cons (eg_n 14 hN) (egs_cons (eg_n 15 hN) egs_nil)))) (fun _ _ _ _ _ => ets_nil) (fun _ _ _ _ _ => (ee_cb cb_len rfl F.n_len (eb_cons (er_pk 14) eb_nil)))))) eb_nil)) (ev_v (ee_cb (cb_sum rfl) rfl F.n_sum (eb_cons (er_of (ee_fz (en_lc (own := [("asks", 14), ("end", 15)]) rfl hN (ei_v (ee_vr 10)) (blkOk_by (N := ["pot", "every", "table", "way", "merge", "first", "second", "few", "least", "asking", "lots", "due", "most", "total", "asks", "end"]) (sc := (defScope s48)) (own := [("asks", 14), ("end", 15)]) (by decide +kernel)) (fun _ _ _ _ _ => (eg_t rfl (egs_cons (eg_n 14 hN) (egs_cons (eg_n 15 hN) egs_nil)))) (fun _ _ _ _ _ => ets_nil) (fun _ _ _ _ _ => (ee_cb cb_len rfl F.n_len (eb_cons (er_pk 14) eb_nil)))))) eb_nil)) ev_nil)))
    (ess_cons (es_set 4 hN (ee_F (ok__law_of F) hr (by omega) rfl (F.m__law_of) (ea_cons (ee_vr 0) (ea_cons (ee_vr 1) ea_nil))))
    (ess_cons (es_if (et_cmp (o_ne hu) (er_of (ee_F (ok_compared_by F) hr (by omega) rfl (F.m_compared_by) (ea_cons (ee_vr 5) (ea_cons (ee_vr 6) (ea_cons (ee_vr 9) (ea_cons (ee_vr 4) ea_nil)))))) (er_of (ee_ix hu (er_of (ee_F (ok__law_led F) hr (by omega) rfl (F.m__law_led) (ea_cons (ee_vr 2) (ea_cons (ee_vr 9) (ea_cons (ee_vr 4) ea_nil))))) (er_of ee_int))))
    (ess_one (es_ret ee_bl))
    ess_nil)
    (ess_cons (es_if (et_w (ew_or (et_cmp o_lt (er_pk 12) (er_pk 7)) (ew_or1 (et_cmp o_lt (er_pk 13) (er_pk 8)))))
    (ess_one (es_ret ee_bl))
    ess_nil)
    (ess_cons (es_if (et_cmp (o_ne hu) (er_of (ee_cb cb_repr rfl F.n_repr (eb_cons (er_of (ee_F (ok_shows_fewest_comparisons F) hr (by omega) rfl (F.m_shows_fewest_comparisons) (ea_cons (ee_vr 5) (ea_cons (ee_vr 6) (ea_cons (ee_tup (ea_cons (ee_vr 12) (ea_cons (ee_vr 9) ea_nil))) ea_nil))))) eb_nil))) (er_of (ee_cb cb_repr rfl F.n_repr (eb_cons (er_of (ee_cmp (o_eq hu) (er_pk 12) (er_pk 7))) eb_nil))))
    (ess_one (es_ret ee_bl))
    ess_nil)
    (ess_one (es_if (et_cmp (o_ne hu) (er_of (ee_cb cb_repr rfl F.n_repr (eb_cons (er_of (ee_F (ok_shows_least_comparisons F) hr (by omega) rfl (F.m_shows_least_comparisons) (ea_cons (ee_vr 5) (ea_cons (ee_vr 6) (ea_cons (ee_tup (ea_cons (ee_vr 13) (ea_cons (ee_vr 9) ea_nil))) ea_nil))))) eb_nil))) (er_of (ee_cb cb_repr rfl F.n_repr (eb_cons (er_of (ee_cmp (o_eq hu) (er_pk 13) (er_pk 8))) eb_nil))))
    (ess_one (es_ret ee_bl))
    ess_nil)))))))))))))
    (ess_cons (es_for owns rfl (ei_v (ee_F (ok__law_some F) hr (by omega) rfl (F.m__law_some) (ea_cons (ee_vr 0) (ea_cons (ee_vr 1) (ea_cons (ee_cb (cb_min2 rfl) rfl F.n_min (eb_cons (er_of (ee_cb cb_len rfl F.n_len (eb_cons (er_pk 1) eb_nil))) (eb_cons (er_of ee_int) eb_nil))) ea_nil))))) (eg_n 4 hN)
    (ess_cons (es_set 11 hN (ee_F (ok__law_heads F) hr (by omega) rfl (F.m__law_heads) (ea_cons (ee_vr 4) (ea_cons (ee_vr 5) (ea_cons (ee_vr 6) ea_nil)))))
    (ess_one (es_if (et_w (ew_or (et_cmp (o_ne hu) (er_of (ee_F (ok_by_heads F) hr (by omega) rfl (F.m_by_heads) (ea_cons (ee_vr 5) (ea_cons (ee_vr 6) (ea_cons (ee_vr 4) ea_nil))))) (er_pk 11)) (ew_or1 (et_cmp o_gt (er_of (ee_cb cb_len rfl F.n_len (eb_cons (er_pk 11) eb_nil))) (er_of (ee_op o_sub (er_of (ee_op o_add (er_pk 5) (er_pk 6))) (er_of ee_int)))))))
    (ess_one (es_ret ee_bl))
    ess_nil))))
    (ess_one (es_ret (ee_and (ee_cmp (o_eq hu) (er_of (ee_ix hu (er_of (ee_F (ok_fewest_comparisons F) hr (by omega) rfl (F.m_fewest_comparisons) (ea_cons (ee_vr 6) (ea_cons (ee_vr 5) ea_nil)))) (er_of ee_int))) (er_pk 7)) (ee_one (ee_cmp (o_eq hu) (er_of (ee_ix hu (er_of (ee_F (ok_least_comparisons F) hr (by omega) rfl (F.m_least_comparisons) (ea_cons (ee_vr 6) (ea_cons (ee_vr 5) ea_nil)))) (er_of ee_int))) (er_pk 8))))))))))))))))
noncomputable def b_law : MS :=
  (sSeq (sFor (iV (mCall f__law_cells [] (aC (vr 0) (aC (cs (.int 2)) aN)))) (gN 1) (sSeq (sSet 2 (mCall f__law_pot [] (aC (vr 0) (aC (vr 1) aN)))) (sIf (tNot (mB (mCb (gAll false) (aC (oD (nFz (nLc (iR1 (aC (cs (.int 1)) aN)) (gN 3) tYs (mCall f__law_right [] (aC (vr 2) aN)) [3]))) aN)))) (sRet (cs (.bl false))) sNx))) (sRet (cs (.bl true))))
noncomputable def f_law : FD := (relF (runB 1 4 (b_law)))
theorem sc_law : FnScope ["script", "place", "pot", "lap"] ["script"] (defScope s49) := ⟨rfl, rfl, rfl, by decide +kernel, rfl, by decide +kernel, by decide +kernel⟩
theorem ok_law {P : Program} {w : World} {K : PySem.W.Frag} {mg : Str → Option Value} {base : Heap} (F : HF K mg base) : FOk P w K mg base 49 (He.fAd K ("law", none)) ["script"] f_law := FOk.rel (fok (k := 48) (F.c.def_ 39) sc_law (fun _ _ _ _ _ _ us hl => match us, hl with | [_], _ => rfl) (fun cdv A outer s H E hr => by
  have hu := hr.units
  have hN := sc_law.nd
  exact (ess_cons (es_for owns rfl (ei_v (ee_F (ok__law_cells F) hr (by omega) rfl (F.m__law_cells) (ea_cons (ee_vr 0) (ea_cons ee_int ea_nil)))) (eg_n 1 hN)
    (ess_cons (es_set 2 hN (ee_F (ok__law_pot F) hr (by omega) rfl (F.m__law_pot) (ea_cons (ee_vr 0) (ea_cons (ee_vr 1) ea_nil))))
    (ess_one (es_if (et_not (et_val (ee_cb (cb_all rfl) rfl F.n_all (eb_cons (er_of (ee_fz (en_lc (own := [("lap", 3)]) rfl hN (ei_r1 rfl F.n_range (ea_cons ee_int ea_nil)) (blkOk_by (N := ["script", "place", "pot", "lap"]) (sc := (defScope s49)) (own := [("lap", 3)]) (by decide +kernel)) (fun _ _ _ _ _ => (eg_n 3 hN)) (fun _ _ _ _ _ => ets_nil) (fun _ _ _ _ _ => (ee_F (ok__law_right F) hr (by omega) rfl (F.m__law_right) (ea_cons (ee_vr 2) ea_nil)))))) eb_nil))))
    (ess_one (es_ret ee_bl))
    ess_nil))))
    (ess_one (es_ret ee_bl)))))
end K37

namespace K37
abbrev Mg := List Int
/-- the places of r, from k on -/
def spk (r : Int) : Nat → Mg → List Int
  | _, [] => []
  | k, x :: m => if x = r then (k : Int) :: spk r (k + 1) m else spk r (k + 1) m
abbrev sp (m : Mg) (r : Int) : List Int := spk r 0 m
theorem spk_app (r : Int) : ∀ (k : Nat) (p q : Mg), spk r k (p ++ q) = spk r k p ++ spk r (k + p.length) q
  | k, [], q => by simp [spk]
  | k, x :: p, q => by
    rw [List.cons_append, spk, spk, spk_app r (k + 1) p q, List.length_cons, Nat.add_right_comm, Nat.add_assoc k]
    split <;> simp [Nat.add_comm, Nat.add_left_comm]
theorem spk_len (r : Int) : ∀ (k : Nat) (m : Mg), (spk r k m).length = m.count r
  | _, [] => rfl
  | k, x :: m => by
    rw [spk, List.count_cons]
    by_cases h : x = r
    · subst h; simp [spk_len]
    · simp [h, spk_len]
theorem spk_ge (r : Int) : ∀ (k : Nat) (m : Mg) (y : Int), y ∈ spk r k m → (k : Int) ≤ y
  | _, [], y, h => by cases h
  | k, x :: m, y, h => by
    rw [spk] at h
    split at h
    · rcases List.mem_cons.mp h with h | h
      · omega
      · have := spk_ge r (k + 1) m y h; omega
    · have := spk_ge r (k + 1) m y h; omega
def lessB (a t : Nat) (m : Mg) : Bool := decide ((sp m 0).getD a 0 < (sp m 1).getD t 0)
def Lo (a t : Nat) (S : List Mg) : List Mg := S.filter (lessB a t)
def Mo (a t : Nat) (S : List Mg) : List Mg := S.filter fun m => !lessB a t m
theorem lomo (a t : Nat) (S : List Mg) : (Lo a t S).length + (Mo a t S).length = S.length := by
  unfold Lo Mo
  induction S with
  | nil => rfl
  | cons m S ih => cases h : lessB a t m <;> simp [List.filter_cons, h] <;> omega
inductive Pl where
  | lf (m : Mg)
  | nd (a t : Nat) (l r : Pl)
def Ok (F G : Nat) : Pl → List Mg → Prop
  | .lf m, S => S = [m]
  | .nd a t l r, S => a < F ∧ t < G ∧ Lo a t S ≠ [] ∧ Mo a t S ≠ [] ∧ Ok F G l (Lo a t S) ∧ Ok F G r (Mo a t S)
def num (sm : Bool) (n x y : Nat) : Nat := if sm then n + x + y else 1 + max x y
def cost (sm : Bool) : Pl → List Mg → Nat
  | .lf _, _ => 0
  | .nd a t l r, S => num sm S.length (cost sm l (Lo a t S)) (cost sm r (Mo a t S))
def prs (F G : Nat) : List (Nat × Nat) := (List.range F).flatMap fun a => (List.range G).map fun t => (a, t)
theorem mem_prs {F G a t : Nat} : (a, t) ∈ prs F G ↔ a < F ∧ t < G := by simp [prs]
def wok (S : List Mg) (p : Nat × Nat) : Bool := !(Lo p.1 p.2 S).isEmpty && !(Mo p.1 p.2 S).isEmpty
def ways (F G : Nat) (S : List Mg) : List (Nat × Nat) := (prs F G).filter (wok S)
theorem mem_ways {F G a t : Nat} {S : List Mg} : (a, t) ∈ ways F G S ↔ a < F ∧ t < G ∧ Lo a t S ≠ [] ∧ Mo a t S ≠ [] := by
  simp [ways, mem_prs, wok, and_assoc, List.isEmpty_iff]
def minN : List Nat → Nat
  | [] => 0
  | [x] => x
  | x :: y :: l => min x (minN (y :: l))
theorem minN_le : ∀ {l : List Nat} {x : Nat}, x ∈ l → minN l ≤ x
  | [y], x, h => by simp at h; simp [minN, h]
  | y :: z :: l, x, h => by
    rw [minN]
    rcases List.mem_cons.mp h with h | h
    · subst h; exact Nat.min_le_left _ _
    · exact Nat.le_trans (Nat.min_le_right _ _) (minN_le h)
theorem minN_mem : ∀ {l : List Nat}, l ≠ [] → minN l ∈ l
  | [y], _ => by simp [minN]
  | y :: z :: l, _ => by
    rw [minN]
    by_cases h : y ≤ minN (z :: l)
    · rw [Nat.min_eq_left h]; exact List.mem_cons_self ..
    · rw [Nat.min_eq_right (by omega)]; exact List.mem_cons_of_mem _ (minN_mem (by simp))
def B (sm : Bool) (F G : Nat) : Nat → List Mg → Nat
  | 0, _ => 0
  | n + 1, S => if S.length < 2 then 0 else minN ((ways F G S).map fun p => num sm S.length (B sm F G n (Lo p.1 p.2 S)) (B sm F G n (Mo p.1 p.2 S)))
theorem shorter {F G a t : Nat} {S : List Mg} (h : (a, t) ∈ ways F G S) : (Lo a t S).length < S.length ∧ (Mo a t S).length < S.length := by
  obtain ⟨_, _, h1, h2⟩ := mem_ways.mp h
  have := lomo a t S
  have := List.length_pos_iff.mpr h1
  have := List.length_pos_iff.mpr h2
  omega
theorem B_eq (sm : Bool) (F G : Nat) : ∀ (n : Nat) (S : List Mg), S.length ≤ n → B sm F G (n + 1) S = B sm F G n S
  | 0, S, h => by
    have h' : S.length < 2 := by omega
    simp only [B, if_pos h']
  | n + 1, S, h => by
    rw [B, B]
    by_cases h2 : S.length < 2
    · rw [if_pos h2, if_pos h2]
    · rw [if_neg h2, if_neg h2]
      congr 1
      apply List.map_congr_left
      intro p hp
      obtain ⟨h3, h4⟩ := shorter (a := p.1) (t := p.2) hp
      rw [B_eq sm F G n _ (by omega), B_eq sm F G n _ (by omega)]
theorem B_ge (sm : Bool) (F G : Nat) (S : List Mg) : ∀ n, S.length ≤ n → B sm F G n S = B sm F G S.length S := fun n h => by
  obtain ⟨k, rfl⟩ := Nat.exists_eq_add_of_le h
  clear h
  induction k with
  | zero => rfl
  | succ k ih => rw [← Nat.add_assoc, B_eq sm F G _ S (by omega), ih]
def best (sm : Bool) (F G : Nat) (S : List Mg) : Nat := B sm F G S.length S
theorem best_short {sm : Bool} {F G : Nat} {S : List Mg} (h : S.length < 2) : best sm F G S = 0 := by
  unfold best
  cases h2 : S.length with
  | zero => rfl
  | succ n => rw [B, if_pos h]
theorem best_step {sm : Bool} {F G : Nat} {S : List Mg} (h : ¬ S.length < 2) : best sm F G S = minN ((ways F G S).map fun p => num sm S.length (best sm F G (Lo p.1 p.2 S)) (best sm F G (Mo p.1 p.2 S))) := by
  unfold best
  rw [← B_eq sm F G S.length S (Nat.le_refl _), B, if_neg h]
  congr 1
  apply List.map_congr_left
  intro p hp
  obtain ⟨h3, h4⟩ := shorter (a := p.1) (t := p.2) hp
  rw [B_ge sm F G _ _ (Nat.le_of_lt h3), B_ge sm F G _ _ (Nat.le_of_lt h4)]
theorem num_mono {sm : Bool} {n x y x' y' : Nat} (h : x ≤ x') (h2 : y ≤ y') : num sm n x y ≤ num sm n x' y' := by
  unfold num; split <;> omega
theorem best_le {sm : Bool} {F G : Nat} : ∀ {p : Pl} {S : List Mg}, Ok F G p S → best sm F G S ≤ cost sm p S
  | .lf m, S, h => by
    have h' : S = [m] := h
    rw [best_short (by rw [h']; exact Nat.lt_succ_self 1)]; exact Nat.zero_le _
  | .nd a t l r, S, h => by
    obtain ⟨h1, h2, h3, h4, h5, h6⟩ := h
    have hw : (a, t) ∈ ways F G S := mem_ways.mpr ⟨h1, h2, h3, h4⟩
    by_cases hl : S.length < 2
    · rw [best_short hl]; exact Nat.zero_le _
    · rw [best_step hl]
      exact Nat.le_trans (minN_le (List.mem_map.mpr ⟨_, hw, rfl⟩)) (num_mono (best_le h5) (best_le h6))
/-- merges of that shape -/
def IsM (F G : Nat) (m : Mg) : Prop := (∀ x ∈ m, x = 0 ∨ x = 1) ∧ m.count 0 = F ∧ m.count 1 = G
theorem sep_aux {p x y : Mg} {a t : Nat} (ha : a = p.count 0) (ht : t = p.count 1) (hc : t < (p ++ 0 :: x).count 1) (hc2 : a < (p ++ 1 :: y).count 0) : lessB a t (p ++ 0 :: x) = true ∧ lessB a t (p ++ 1 :: y) = false := by
  have g1 : ∀ (r : Int) (z : Mg), (spk r 0 (p ++ r :: z)).getD (p.count r) 0 = (p.length : Int) := fun r z => by
    rw [spk_app, List.getD_eq_getElem?_getD, List.getElem?_append_right (by rw [spk_len]; exact Nat.le_refl _), spk_len, Nat.sub_self, spk, if_pos rfl]
    simp
  have g2 : ∀ (r q : Int) (z : Mg), q ≠ r → p.count r < (p ++ q :: z).count r → (p.length : Int) < (spk r 0 (p ++ q :: z)).getD (p.count r) 0 := fun r q z hne hlt => by
    have hl : (spk r 0 (p ++ q :: z)).length = (p ++ q :: z).count r := spk_len _ _ _
    rw [List.getD_eq_getElem?_getD, List.getElem?_eq_getElem (by rw [hl]; exact hlt)]
    have hm : (spk r 0 (p ++ q :: z))[p.count r]'(by rw [hl]; exact hlt) ∈ spk r (p.length + 1) z := by
      have e : spk r 0 (p ++ q :: z) = spk r 0 p ++ spk r (p.length + 1) z := by
        rw [spk_app, spk, if_neg hne, Nat.zero_add]
      have hge : (spk r 0 p).length ≤ p.count r := by rw [spk_len]; exact Nat.le_refl _
      simp only [e]
      rw [List.getElem_append_right hge]
      exact List.getElem_mem _
    have := spk_ge r _ _ _ hm
    simp only [Option.getD_some]
    omega
  subst ha ht
  unfold lessB sp
  refine ⟨decide_eq_true ?_, decide_eq_false ?_⟩
  · rw [g1 0 x]; exact g2 1 0 x (by decide) hc
  · have := g2 0 1 y (by decide) hc2
    rw [g1 1 y]; omega
theorem diff_at : ∀ {m m' : Mg}, m ≠ m' → m.length = m'.length → ∃ p q q' x y, m = p ++ q :: x ∧ m' = p ++ q' :: y ∧ q ≠ q'
  | [], [], h, _ => absurd rfl h
  | [], _ :: _, _, h => by simp at h
  | _ :: _, [], _, h => by simp at h
  | a :: m, b :: m', h, hl => by
    by_cases e : a = b
    · subst e
      obtain ⟨p, q, q', x, y, e1, e2, e3⟩ := diff_at (m := m) (m' := m') (fun z => h (by rw [z])) (by simpa using hl)
      exact ⟨a :: p, q, q', x, y, by rw [e1]; rfl, by rw [e2]; rfl, e3⟩
    · exact ⟨[], a, b, m, m', rfl, rfl, e⟩
theorem len_of {F G : Nat} {m : Mg} (h : IsM F G m) : m.length = F + G := by
  obtain ⟨h1, h2, h3⟩ := h
  subst h2 h3
  induction m with
  | nil => rfl
  | cons x m ih =>
    have := ih fun y hy => h1 y (List.mem_cons_of_mem _ hy)
    rw [List.length_cons, List.count_cons, List.count_cons, this]
    rcases h1 x (List.mem_cons_self ..) with e | e <;> subst e <;> simp <;> omega
theorem sep {F G : Nat} {m m' : Mg} (h : IsM F G m) (h' : IsM F G m') (hne : m ≠ m') : ∃ a t, a < F ∧ t < G ∧ lessB a t m ≠ lessB a t m' := by
  obtain ⟨p, q, q', x, y, e1, e2, e3⟩ := diff_at hne (by rw [len_of h, len_of h'])
  have k1 := h.1 q (by rw [e1]; simp)
  have k2 := h'.1 q' (by rw [e2]; simp)
  have c1 := h.2; have c2 := h'.2
  rcases k1 with k1 | k1 <;> rcases k2 with k2 | k2 <;> subst k1 <;> subst k2
  · exact absurd rfl e3
  · have l0 : p.count 0 < F := by rw [← c1.1, e1, List.count_append]; simp
    have l1 : p.count 1 < G := by rw [← c2.2, e2, List.count_append]; simp
    obtain ⟨z1, z2⟩ := sep_aux (p := p) (x := x) (y := y) rfl rfl (by rw [← e1, c1.2]; exact l1) (by rw [← e2, c2.1]; exact l0)
    exact ⟨_, _, l0, l1, by rw [e1, e2, z1, z2]; decide⟩
  · have l0 : p.count 0 < F := by rw [← c2.1, e2, List.count_append]; simp
    have l1 : p.count 1 < G := by rw [← c1.2, e1, List.count_append]; simp
    obtain ⟨z1, z2⟩ := sep_aux (p := p) (x := y) (y := x) rfl rfl (by rw [← e2, c2.2]; exact l1) (by rw [← e1, c1.1]; exact l0)
    exact ⟨_, _, l0, l1, by rw [e1, e2, z1, z2]; decide⟩
  · exact absurd rfl e3
/-- a set of merges of one shape -/
structure Set1 (F G : Nat) (S : List Mg) : Prop where
  nd : S.Nodup
  sh : ∀ m ∈ S, IsM F G m
theorem Set1.filter {F G : Nat} {S : List Mg} (h : Set1 F G S) (f : Mg → Bool) : Set1 F G (S.filter f) := ⟨h.nd.sublist (List.filter_sublist), fun m hm => h.sh m (List.mem_filter.mp hm).1⟩
theorem Set1.ways_ne {F G : Nat} {S : List Mg} (h : Set1 F G S) (hl : ¬ S.length < 2) : ways F G S ≠ [] := by
  match S, h, hl with
  | [], _, hl => exact absurd (by decide) hl
  | [m], _, hl => exact absurd (by simp) hl
  | m :: m' :: S, h, _ =>
    have hne : m ≠ m' := fun e => by
      have := h.nd
      rw [e] at this
      simp at this
    obtain ⟨a, t, ha, ht, hd⟩ := sep (h.sh m (by simp)) (h.sh m' (by simp)) hne
    refine List.ne_nil_of_mem (a := (a, t)) (mem_ways.mpr ⟨ha, ht, ?_, ?_⟩)
    · cases e : lessB a t m
      · exact List.ne_nil_of_mem (a := m') (List.mem_filter.mpr ⟨by simp, by cases e2 : lessB a t m' <;> simp_all⟩)
      · exact List.ne_nil_of_mem (a := m) (List.mem_filter.mpr ⟨by simp, e⟩)
    · cases e : lessB a t m
      · exact List.ne_nil_of_mem (a := m) (List.mem_filter.mpr ⟨by simp, by rw [e]; rfl⟩)
      · exact List.ne_nil_of_mem (a := m') (List.mem_filter.mpr ⟨by simp, by cases e2 : lessB a t m' <;> simp_all⟩)
theorem best_at {sm : Bool} {F G : Nat} : ∀ (n : Nat) {S : List Mg}, S.length ≤ n → Set1 F G S → S ≠ [] → ∃ p, Ok F G p S ∧ cost sm p S = best sm F G S
  | 0, S, hl, h, hn => absurd (List.length_eq_zero_iff.mp (by omega)) hn
  | n + 1, S, hl, h, hn => by
    by_cases h2 : S.length < 2
    · match S, hn, h2 with
      | [m], _, _ => exact ⟨.lf m, rfl, by rw [best_short (by simp)]; rfl⟩
    · have hw := h.ways_ne h2
      have := minN_mem (l := (ways F G S).map fun p => num sm S.length (best sm F G (Lo p.1 p.2 S)) (best sm F G (Mo p.1 p.2 S))) (by simpa using hw)
      obtain ⟨⟨a, t⟩, hp, e⟩ := List.mem_map.mp this
      obtain ⟨s1, s2⟩ := shorter hp
      obtain ⟨ha, ht, k1, k2⟩ := mem_ways.mp hp
      obtain ⟨l, o1, c1⟩ := best_at (sm := sm) n (S := Lo a t S) (by omega) (h.filter _) k1
      obtain ⟨r, o2, c2⟩ := best_at (sm := sm) n (S := Mo a t S) (by omega) (h.filter _) k2
      refine ⟨.nd a t l r, ⟨ha, ht, k1, k2, o1, o2⟩, ?_⟩
      rw [best_step h2, cost, c1, c2]
      exact e
/-- how many questions m meets -/
def plen : Pl → Mg → Nat
  | .lf _, _ => 0
  | .nd a t l r, m => 1 + if lessB a t m then plen l m else plen r m
def maxN : List Nat → Nat
  | [] => 0
  | x :: l => max x (maxN l)
theorem maxN_le {l : List Nat} {k : Nat} (h : ∀ x ∈ l, x ≤ k) : maxN l ≤ k := by
  induction l with
  | nil => exact Nat.zero_le _
  | cons x l ih => rw [maxN]; exact Nat.max_le.mpr ⟨h x (by simp), ih fun y hy => h y (by simp [hy])⟩
theorem le_maxN {l : List Nat} {x : Nat} (h : x ∈ l) : x ≤ maxN l := by
  induction l with
  | nil => cases h
  | cons y l ih =>
    rw [maxN]
    rcases List.mem_cons.mp h with h | h
    · subst h; exact Nat.le_max_left _ _
    · exact Nat.le_trans (ih h) (Nat.le_max_right _ _)
theorem sum_parts (f g h : Mg → Nat) (a t : Nat) : ∀ (S : List Mg), (∀ m ∈ S, f m = 1 + if lessB a t m then g m else h m) → (S.map f).sum = S.length + ((Lo a t S).map g).sum + ((Mo a t S).map h).sum
  | [], _ => rfl
  | m :: S, e => by
    have e1 := e m (by simp)
    have ih := sum_parts f g h a t S fun x hx => e x (by simp [hx])
    unfold Lo Mo at ih ⊢
    cases c : lessB a t m <;> simp [List.filter_cons, c] at e1 ⊢ <;> omega
theorem cost_sum {F G : Nat} : ∀ {p : Pl} {S : List Mg}, Ok F G p S → cost true p S = (S.map (plen p)).sum
  | .lf m, S, h => by
    have h' : S = [m] := h
    rw [h']; rfl
  | .nd a t l r, S, ⟨_, _, _, _, h5, h6⟩ => by
    rw [cost, cost_sum h5, cost_sum h6, sum_parts (plen (.nd a t l r)) (plen l) (plen r) a t S fun m _ => rfl]
    rfl
theorem cost_max {F G : Nat} : ∀ {p : Pl} {S : List Mg}, Ok F G p S → cost false p S = maxN (S.map (plen p))
  | .lf m, S, h => by
    have h' : S = [m] := h
    rw [h']; rfl
  | .nd a t l r, S, ⟨_, _, h3, h4, h5, h6⟩ => by
    rw [cost, cost_max h5, cost_max h6]
    show 1 + max _ _ = _
    apply Nat.le_antisymm
    · have q : ∀ (A : List Mg) (f : Mg → Nat), A ≠ [] → (∀ m ∈ A, 1 + f m ≤ maxN (S.map (plen (.nd a t l r)))) → 1 + maxN (A.map f) ≤ maxN (S.map (plen (.nd a t l r))) := fun A f hA hm => by
        have h0 : 1 ≤ maxN (S.map (plen (.nd a t l r))) := by
          obtain ⟨m, hA'⟩ := List.exists_mem_of_ne_nil A hA
          have := hm m hA'; omega
        have : maxN (A.map f) ≤ maxN (S.map (plen (.nd a t l r))) - 1 := maxN_le fun x hx => by
          obtain ⟨m, hm1, rfl⟩ := List.mem_map.mp hx
          have := hm m hm1; omega
        omega
      have q1 := q (Lo a t S) (plen l) h3 fun m hm => by
        obtain ⟨k1, k2⟩ := List.mem_filter.mp hm
        refine le_maxN (List.mem_map.mpr ⟨m, k1, ?_⟩)
        simp [plen, k2]
      have q2 := q (Mo a t S) (plen r) h4 fun m hm => by
        obtain ⟨k1, k2⟩ := List.mem_filter.mp hm
        refine le_maxN (List.mem_map.mpr ⟨m, k1, ?_⟩)
        cases c : lessB a t m <;> simp [plen, c] at k2 ⊢
      omega
    · refine maxN_le fun x hx => ?_
      obtain ⟨m, hm, rfl⟩ := List.mem_map.mp hx
      rw [plen]
      cases c : lessB a t m
      · have : plen r m ≤ maxN ((Mo a t S).map (plen r)) := le_maxN (List.mem_map.mpr ⟨m, List.mem_filter.mpr ⟨hm, by rw [c]; rfl⟩, rfl⟩)
        simp; omega
      · have : plen l m ≤ maxN ((Lo a t S).map (plen l)) := le_maxN (List.mem_map.mpr ⟨m, List.mem_filter.mpr ⟨hm, c⟩, rfl⟩)
        simp; omega
/-! the other way about -/
def flip (m : Mg) : Mg := m.map fun x => 1 - x
def Pl.fl : Pl → Pl
  | .lf m => .lf (flip m)
  | .nd a t l r => .nd t a r.fl l.fl
theorem spk_flip : ∀ (k : Nat) (m : Mg) (r : Int), spk r k (flip m) = spk (1 - r) k m
  | _, [], _ => rfl
  | k, x :: m, r => by
    show spk r k ((1 - x) :: flip m) = _
    rw [spk, spk, spk_flip (k + 1) m r]
    by_cases h : x = 1 - r
    · rw [if_pos (by omega), if_pos h]
    · rw [if_neg (by omega), if_neg h]
theorem spk_ne {k : Nat} {m : Mg} {y : Int} (h : y ∈ spk 0 k m) (h' : y ∈ spk 1 k m) : False := by
  induction m generalizing k with
  | nil => cases h
  | cons x m ih =>
    rw [spk] at h h'
    by_cases h0 : x = 0
    · rw [if_pos h0] at h; rw [if_neg (by omega)] at h'
      rcases List.mem_cons.mp h with e | e
      · have := spk_ge _ _ _ _ h'; omega
      · exact ih e h'
    · rw [if_neg h0] at h
      by_cases h1 : x = 1
      · rw [if_pos h1] at h'
        rcases List.mem_cons.mp h' with e | e
        · have := spk_ge _ _ _ _ h; omega
        · exact ih h e
      · rw [if_neg h1] at h'; exact ih h h'
theorem lessB_flip {F G a t : Nat} {m : Mg} (h : IsM F G m) (ha : a < F) (ht : t < G) : lessB t a (flip m) = !lessB a t m := by
  have l0 : (spk 0 0 m).length = F := by rw [spk_len, h.2.1]
  have l1 : (spk 1 0 m).length = G := by rw [spk_len, h.2.2]
  have q0 : (spk 0 0 m).getD a 0 ∈ spk 0 0 m := by rw [List.getD_eq_getElem?_getD, List.getElem?_eq_getElem (by omega)]; exact List.getElem_mem _
  have q1 : (spk 1 0 m).getD t 0 ∈ spk 1 0 m := by rw [List.getD_eq_getElem?_getD, List.getElem?_eq_getElem (by omega)]; exact List.getElem_mem _
  have hne : (spk 0 0 m).getD a 0 ≠ (spk 1 0 m).getD t 0 := fun e => spk_ne q0 (e ▸ q1)
  unfold lessB sp
  rw [spk_flip, spk_flip]
  show decide ((spk 1 0 m).getD t 0 < (spk 0 0 m).getD a 0) = _
  by_cases c : (spk 0 0 m).getD a 0 < (spk 1 0 m).getD t 0
  · rw [decide_eq_false (by omega), decide_eq_true c]; rfl
  · rw [decide_eq_true (by omega), decide_eq_false c]; rfl
theorem fl_ok {F G : Nat} (sm : Bool) : ∀ {p : Pl} {S T : List Mg}, Ok F G p S → (∀ m ∈ S, IsM F G m) → T.Perm (S.map flip) → Ok G F p.fl T ∧ cost sm p.fl T = cost sm p S
  | .lf m, S, T, h, hs, hp => by
    have h' : S = [m] := h
    subst h'
    exact ⟨List.perm_singleton.mp hp, rfl⟩
  | .nd a t l r, S, T, ⟨h1, h2, h3, h4, h5, h6⟩, hs, hp => by
    have e1 : (Lo t a T).Perm ((Mo a t S).map flip) := by
      have := hp.filter (lessB t a)
      refine this.trans (List.Perm.of_eq ?_)
      unfold Mo
      rw [List.filter_map]
      congr 1
      exact List.filter_congr fun m hm => lessB_flip (hs m hm) h1 h2
    have e2 : (Mo t a T).Perm ((Lo a t S).map flip) := by
      have := hp.filter (fun m => !lessB t a m)
      refine this.trans (List.Perm.of_eq ?_)
      unfold Lo
      rw [List.filter_map]
      congr 1
      exact List.filter_congr fun m hm => by
        show (!lessB t a (flip m)) = _
        rw [lessB_flip (hs m hm) h1 h2, Bool.not_not]
    obtain ⟨o1, c1⟩ := fl_ok sm h6 (fun m hm => hs m (List.mem_filter.mp hm).1) e1
    obtain ⟨o2, c2⟩ := fl_ok sm h5 (fun m hm => hs m (List.mem_filter.mp hm).1) e2
    refine ⟨⟨h2, h1, fun e => ?_, fun e => ?_, o1, o2⟩, ?_⟩
    · rw [e] at e1; exact h4 (List.map_eq_nil_iff.mp (List.nil_perm.mp e1))
    · rw [e] at e2; exact h3 (List.map_eq_nil_iff.mp (List.nil_perm.mp e2))
    · show num sm T.length (cost sm r.fl (Lo t a T)) (cost sm l.fl (Mo t a T)) = num sm S.length (cost sm l (Lo a t S)) (cost sm r (Mo a t S))
      rw [c1, c2, hp.length_eq, List.length_map]
      unfold num
      split
      · omega
      · rw [Nat.max_comm]
theorem best_flip_le {F G : Nat} (sm : Bool) {S T : List Mg} (h : Set1 F G S) (hn : S ≠ []) (hp : T.Perm (S.map flip)) : best sm G F T ≤ best sm F G S := by
  obtain ⟨p, o, c⟩ := best_at (sm := sm) _ (Nat.le_refl _) h hn
  obtain ⟨o2, c2⟩ := fl_ok sm o h.sh hp
  rw [← c, ← c2]
  exact best_le o2
end K37

namespace K37
open PySem PS
abbrev tM (S : List Mg) : D := .tup (S.map fun m => tZ m)
theorem e_is_integer (i : Int) (S : Sto) : f_is_integer [.int i] S = some (.bl true, S) := by
  simp only [↓mPure, ↓mBind, ↓vr, ↓pk, ↓cs, ↓oD, ↓m2, ↓m1, ↓mB, ↓mCall, ↓mMeth, ↓mMt, ↓mMt2, ↓mCb, ↓nCb, ↓mIs, ↓mCh, ↓mSl, ↓mRev, ↓mFl, ↓sFl, ↓nFz, ↓nBx, ↓nLst, ↓nTup, ↓aN, ↓aC, ↓aS, ↓avN, ↓avV, ↓avO, ↓sParA, ↓stAV, ↓sNx, ↓sBk, ↓sCt, ↓sNo, ↓sSeq, ↓sRet, ↓sDrop, ↓sIf, ↓sSet, ↓sAsg, ↓sOwn, ↓gN, ↓gsN, ↓gsC, ↓gT, ↓gSb, ↓gFl, stO, obR, cellR, setC, objAt, vw, vwD, lsV, itV, itD, lsOf, Ob.fz, fI, gAdd, gEq, gIn, gIs, gIx, gNeg, gInt, gAbs, gLen, gSum, gAll, gMax2, gMin2, gReprB, gList, gTuple, gSrt, gMM, ↓tAnd, ↓tOr, ↓tNot, ↓vAnd, ↓vOr, ↓vNot, ↓vIf, ↓iV, ↓iR1, ↓iR2, ↓iEnA, ↓iZp, ↓sFor, fAppend, fExtend, fPop, fPopAt, fInsert, fGet2, fSetdef, fFind, fSame, kL, kT, kD, dv, ↓mTRg, ↓nLRg, ↓rg1, ↓rg2, ↓oN, ↓oS, ↓tYs, ↓nDct, List.getElem?_cons_zero, List.getElem?_cons_succ, List.set_cons_zero, List.set_cons_succ, List.length_cons, List.length_nil, Option.map_some, Option.map_none, Option.bind_some, Option.bind_none, List.append_nil, List.nil_append, List.cons_append, Bool.false_eq_true, reduceCtorEq, ↓reduceIte, ↓relF, rel, ↓runB, List.map_cons, List.map_nil, List.replicate, Nat.reduceSub, Nat.reduceAdd, Nat.reduceEqDiff, and_self, true_and, and_true, decide_true, decide_false, Bool.and_true, Bool.true_and, Bool.not_true, Bool.not_false, Nat.reduceLT, Nat.reduceLeDiff, Nat.zero_lt_succ, ↓dropS, wipeS, restS, pls_tZs, iCnt, countP_ints, dep59, dmin1, dmin0, deq_nil, Nat.zero_add, ↓turn, rng0, Int.toNat_natCast, forGo_nil0, forGo_cons0, sz0, sz1, sz2, sz3, sz4, sz5, ↓iEnA, pl, pls, py, pys, pl_tZ', py_tZ', pls_ints', pys_ints, PyData.depth, Nat.min_zero, Nat.zero_min, Nat.zero_le, deq_int, and_self, true_and, f_is_integer, b_is_integer, PyData.isInt, PyData.isBool]
theorem e_is_between (i a b : Int) (S : Sto) : f_is_between [.int i, .int a, .int b] S = some (.bl (decide (a ≤ i ∧ i ≤ b)), S) := by
  by_cases h1 : a ≤ i <;> by_cases h2 : i ≤ b <;> simp only [↓mPure, ↓mBind, ↓vr, ↓pk, ↓cs, ↓oD, ↓m2, ↓m1, ↓mB, ↓mCall, ↓mMeth, ↓mMt, ↓mMt2, ↓mCb, ↓nCb, ↓mIs, ↓mCh, ↓mSl, ↓mRev, ↓mFl, ↓sFl, ↓nFz, ↓nBx, ↓nLst, ↓nTup, ↓aN, ↓aC, ↓aS, ↓avN, ↓avV, ↓avO, ↓sParA, ↓stAV, ↓sNx, ↓sBk, ↓sCt, ↓sNo, ↓sSeq, ↓sRet, ↓sDrop, ↓sIf, ↓sSet, ↓sAsg, ↓sOwn, ↓gN, ↓gsN, ↓gsC, ↓gT, ↓gSb, ↓gFl, stO, obR, cellR, setC, objAt, vw, vwD, lsV, itV, itD, lsOf, Ob.fz, fI, gAdd, gEq, gIn, gIs, gIx, gNeg, gInt, gAbs, gLen, gSum, gAll, gMax2, gMin2, gReprB, gList, gTuple, gSrt, gMM, ↓tAnd, ↓tOr, ↓tNot, ↓vAnd, ↓vOr, ↓vNot, ↓vIf, ↓iV, ↓iR1, ↓iR2, ↓iEnA, ↓iZp, ↓sFor, fAppend, fExtend, fPop, fPopAt, fInsert, fGet2, fSetdef, fFind, fSame, kL, kT, kD, dv, ↓mTRg, ↓nLRg, ↓rg1, ↓rg2, ↓oN, ↓oS, ↓tYs, ↓nDct, List.getElem?_cons_zero, List.getElem?_cons_succ, List.set_cons_zero, List.set_cons_succ, List.length_cons, List.length_nil, Option.map_some, Option.map_none, Option.bind_some, Option.bind_none, List.append_nil, List.nil_append, List.cons_append, Bool.false_eq_true, reduceCtorEq, ↓reduceIte, ↓relF, rel, ↓runB, List.map_cons, List.map_nil, List.replicate, Nat.reduceSub, Nat.reduceAdd, Nat.reduceEqDiff, and_self, true_and, and_true, decide_true, decide_false, Bool.and_true, Bool.true_and, Bool.not_true, Bool.not_false, Nat.reduceLT, Nat.reduceLeDiff, Nat.zero_lt_succ, ↓dropS, wipeS, restS, pls_tZs, iCnt, countP_ints, dep59, dmin1, dmin0, deq_nil, Nat.zero_add, ↓turn, rng0, Int.toNat_natCast, forGo_nil0, forGo_cons0, sz0, sz1, sz2, sz3, sz4, sz5, ↓iEnA, pl, pls, py, pys, pl_tZ', py_tZ', pls_ints', pys_ints, PyData.depth, Nat.min_zero, Nat.zero_min, Nat.zero_le, deq_int, and_self, true_and, f_is_between, b_is_between, e_is_integer, h1, h2, false_and, and_false]
theorem e_check_lengths (a b : Int) (S : Sto) (h : (0 ≤ a ∧ a ≤ 5) ∧ 0 ≤ b ∧ b ≤ 5) : f_check_lengths [.int a, .int b] S = some (.non, S) := by
  simp only [↓mPure, ↓mBind, ↓vr, ↓pk, ↓cs, ↓oD, ↓m2, ↓m1, ↓mB, ↓mCall, ↓mMeth, ↓mMt, ↓mMt2, ↓mCb, ↓nCb, ↓mIs, ↓mCh, ↓mSl, ↓mRev, ↓mFl, ↓sFl, ↓nFz, ↓nBx, ↓nLst, ↓nTup, ↓aN, ↓aC, ↓aS, ↓avN, ↓avV, ↓avO, ↓sParA, ↓stAV, ↓sNx, ↓sBk, ↓sCt, ↓sNo, ↓sSeq, ↓sRet, ↓sDrop, ↓sIf, ↓sSet, ↓sAsg, ↓sOwn, ↓gN, ↓gsN, ↓gsC, ↓gT, ↓gSb, ↓gFl, stO, obR, cellR, setC, objAt, vw, vwD, lsV, itV, itD, lsOf, Ob.fz, fI, gAdd, gEq, gIn, gIs, gIx, gNeg, gInt, gAbs, gLen, gSum, gAll, gMax2, gMin2, gReprB, gList, gTuple, gSrt, gMM, ↓tAnd, ↓tOr, ↓tNot, ↓vAnd, ↓vOr, ↓vNot, ↓vIf, ↓iV, ↓iR1, ↓iR2, ↓iEnA, ↓iZp, ↓sFor, fAppend, fExtend, fPop, fPopAt, fInsert, fGet2, fSetdef, fFind, fSame, kL, kT, kD, dv, ↓mTRg, ↓nLRg, ↓rg1, ↓rg2, ↓oN, ↓oS, ↓tYs, ↓nDct, List.getElem?_cons_zero, List.getElem?_cons_succ, List.set_cons_zero, List.set_cons_succ, List.length_cons, List.length_nil, Option.map_some, Option.map_none, Option.bind_some, Option.bind_none, List.append_nil, List.nil_append, List.cons_append, Bool.false_eq_true, reduceCtorEq, ↓reduceIte, ↓relF, rel, ↓runB, List.map_cons, List.map_nil, List.replicate, Nat.reduceSub, Nat.reduceAdd, Nat.reduceEqDiff, and_self, true_and, and_true, decide_true, decide_false, Bool.and_true, Bool.true_and, Bool.not_true, Bool.not_false, Nat.reduceLT, Nat.reduceLeDiff, Nat.zero_lt_succ, ↓dropS, wipeS, restS, pls_tZs, iCnt, countP_ints, dep59, dmin1, dmin0, deq_nil, Nat.zero_add, ↓turn, rng0, Int.toNat_natCast, forGo_nil0, forGo_cons0, sz0, sz1, sz2, sz3, sz4, sz5, ↓iEnA, pl, pls, py, pys, pl_tZ', py_tZ', pls_ints', pys_ints, PyData.depth, Nat.min_zero, Nat.zero_min, Nat.zero_le, deq_int, and_self, true_and, f_check_lengths, b_check_lengths, e_is_between, h.1, h.2]
theorem spk_zip (r : Int) : ∀ (m : List Int) (k : Nat), ((m.zipIdx k).filter (fun p => decide (p.1 = r))).map (fun p => D.int (p.2 : Nat)) = (spk r k m).map .int
  | [], _ => rfl
  | x :: m, k => by
    rw [List.zipIdx_cons, spk]
    by_cases h : x = r
    · rw [List.filter_cons_of_pos (by simp [h]), if_pos h, List.map_cons, List.map_cons, spk_zip r m (k + 1)]
    · rw [List.filter_cons_of_neg (by simp [h]), if_neg h, spk_zip r m (k + 1)]
theorem e_spots_of (m : List Int) (r : Int) (S : Sto) (hm : m.length ≤ sizeLine) : f_spots_of [tZ m, .int r] S = some (.lst ((sp m r).map .int), S) := by
  have q : nLc (iEnA (vr 0)) (gT 2 (gsC (gN 2) (gsC (gN 3) gsN))) (mB (m2 (gEq false) (pk 3) (pk 1))) (vr 2) [2, 3] [(some (SV.val (tZ m))), (some (SV.val (.int r))), none, none] S = some (.lst ((m.zipIdx.filter (fun p => decide (p.1 = r))).map (fun p => D.int (p.2 : Nat))), [(some (SV.val (tZ m))), (some (SV.val (.int r))), none, none], S) :=
    nLc_f (sl2 := [(some (SV.val (tZ m))), (some (SV.val (.int r))), none, none]) (fun p : Int × Nat => [(some (SV.val (tZ m))), (some (SV.val (.int r))), (some (SV.val (.int (p.2 : Nat)))), (some (SV.val (.int p.1)))]) (fun p => decide (p.1 = r)) (fun p => .int (p.2 : Nat)) m.zipIdx
    (by simp only [↓mPure, ↓mBind, ↓vr, ↓pk, ↓cs, ↓oD, ↓m2, ↓m1, ↓mB, ↓mCall, ↓mMeth, ↓mMt, ↓mMt2, ↓mCb, ↓nCb, ↓mIs, ↓mCh, ↓mSl, ↓mRev, ↓mFl, ↓sFl, ↓nFz, ↓nBx, ↓nLst, ↓nTup, ↓aN, ↓aC, ↓aS, ↓avN, ↓avV, ↓avO, ↓sParA, ↓stAV, ↓sNx, ↓sBk, ↓sCt, ↓sNo, ↓sSeq, ↓sRet, ↓sDrop, ↓sIf, ↓sSet, ↓sAsg, ↓sOwn, ↓gN, ↓gsN, ↓gsC, ↓gT, ↓gSb, ↓gFl, stO, obR, cellR, setC, objAt, vw, vwD, lsV, itV, itD, lsOf, Ob.fz, fI, gAdd, gEq, gIn, gIs, gIx, gNeg, gInt, gAbs, gLen, gSum, gAll, gMax2, gMin2, gReprB, gList, gTuple, gSrt, gMM, ↓tAnd, ↓tOr, ↓tNot, ↓vAnd, ↓vOr, ↓vNot, ↓vIf, ↓iV, ↓iR1, ↓iR2, ↓iEnA, ↓iZp, ↓sFor, fAppend, fExtend, fPop, fPopAt, fInsert, fGet2, fSetdef, fFind, fSame, kL, kT, kD, dv, ↓mTRg, ↓nLRg, ↓rg1, ↓rg2, ↓oN, ↓oS, ↓tYs, ↓nDct, List.getElem?_cons_zero, List.getElem?_cons_succ, List.set_cons_zero, List.set_cons_succ, List.length_cons, List.length_nil, Option.map_some, Option.map_none, Option.bind_some, Option.bind_none, List.append_nil, List.nil_append, List.cons_append, Bool.false_eq_true, reduceCtorEq, ↓reduceIte, ↓relF, rel, ↓runB, List.map_cons, List.map_nil, List.replicate, Nat.reduceSub, Nat.reduceAdd, Nat.reduceEqDiff, and_self, true_and, and_true, decide_true, decide_false, Bool.and_true, Bool.true_and, Bool.not_true, Bool.not_false, Nat.reduceLT, Nat.reduceLeDiff, Nat.zero_lt_succ, ↓dropS, wipeS, restS, pls_tZs, iCnt, countP_ints, dep59, dmin1, dmin0, deq_nil, Nat.zero_add, ↓turn, rng0, Int.toNat_natCast, forGo_nil0, forGo_cons0, sz0, sz1, sz2, sz3, sz4, sz5, ↓iEnA, pl, pls, py, pys, pl_tZ', py_tZ', pls_ints', pys_ints, PyData.depth, Nat.min_zero, Nat.zero_min, Nat.zero_le, deq_int, and_self, true_and]) (enum_map0 D.int m) rfl rfl (by simpa using hm)
    (fun p _ => by simp only [↓mPure, ↓mBind, ↓vr, ↓pk, ↓cs, ↓oD, ↓m2, ↓m1, ↓mB, ↓mCall, ↓mMeth, ↓mMt, ↓mMt2, ↓mCb, ↓nCb, ↓mIs, ↓mCh, ↓mSl, ↓mRev, ↓mFl, ↓sFl, ↓nFz, ↓nBx, ↓nLst, ↓nTup, ↓aN, ↓aC, ↓aS, ↓avN, ↓avV, ↓avO, ↓sParA, ↓stAV, ↓sNx, ↓sBk, ↓sCt, ↓sNo, ↓sSeq, ↓sRet, ↓sDrop, ↓sIf, ↓sSet, ↓sAsg, ↓sOwn, ↓gN, ↓gsN, ↓gsC, ↓gT, ↓gSb, ↓gFl, stO, obR, cellR, setC, objAt, vw, vwD, lsV, itV, itD, lsOf, Ob.fz, fI, gAdd, gEq, gIn, gIs, gIx, gNeg, gInt, gAbs, gLen, gSum, gAll, gMax2, gMin2, gReprB, gList, gTuple, gSrt, gMM, ↓tAnd, ↓tOr, ↓tNot, ↓vAnd, ↓vOr, ↓vNot, ↓vIf, ↓iV, ↓iR1, ↓iR2, ↓iEnA, ↓iZp, ↓sFor, fAppend, fExtend, fPop, fPopAt, fInsert, fGet2, fSetdef, fFind, fSame, kL, kT, kD, dv, ↓mTRg, ↓nLRg, ↓rg1, ↓rg2, ↓oN, ↓oS, ↓tYs, ↓nDct, List.getElem?_cons_zero, List.getElem?_cons_succ, List.set_cons_zero, List.set_cons_succ, List.length_cons, List.length_nil, Option.map_some, Option.map_none, Option.bind_some, Option.bind_none, List.append_nil, List.nil_append, List.cons_append, Bool.false_eq_true, reduceCtorEq, ↓reduceIte, ↓relF, rel, ↓runB, List.map_cons, List.map_nil, List.replicate, Nat.reduceSub, Nat.reduceAdd, Nat.reduceEqDiff, and_self, true_and, and_true, decide_true, decide_false, Bool.and_true, Bool.true_and, Bool.not_true, Bool.not_false, Nat.reduceLT, Nat.reduceLeDiff, Nat.zero_lt_succ, ↓dropS, wipeS, restS, pls_tZs, iCnt, countP_ints, dep59, dmin1, dmin0, deq_nil, Nat.zero_add, ↓turn, rng0, Int.toNat_natCast, forGo_nil0, forGo_cons0, sz0, sz1, sz2, sz3, sz4, sz5, ↓iEnA, pl, pls, py, pys, pl_tZ', py_tZ', pls_ints', pys_ints, PyData.depth, Nat.min_zero, Nat.zero_min, Nat.zero_le, deq_int, and_self, true_and]) (fun p _ => by simp only [↓mPure, ↓mBind, ↓vr, ↓pk, ↓cs, ↓oD, ↓m2, ↓m1, ↓mB, ↓mCall, ↓mMeth, ↓mMt, ↓mMt2, ↓mCb, ↓nCb, ↓mIs, ↓mCh, ↓mSl, ↓mRev, ↓mFl, ↓sFl, ↓nFz, ↓nBx, ↓nLst, ↓nTup, ↓aN, ↓aC, ↓aS, ↓avN, ↓avV, ↓avO, ↓sParA, ↓stAV, ↓sNx, ↓sBk, ↓sCt, ↓sNo, ↓sSeq, ↓sRet, ↓sDrop, ↓sIf, ↓sSet, ↓sAsg, ↓sOwn, ↓gN, ↓gsN, ↓gsC, ↓gT, ↓gSb, ↓gFl, stO, obR, cellR, setC, objAt, vw, vwD, lsV, itV, itD, lsOf, Ob.fz, fI, gAdd, gEq, gIn, gIs, gIx, gNeg, gInt, gAbs, gLen, gSum, gAll, gMax2, gMin2, gReprB, gList, gTuple, gSrt, gMM, ↓tAnd, ↓tOr, ↓tNot, ↓vAnd, ↓vOr, ↓vNot, ↓vIf, ↓iV, ↓iR1, ↓iR2, ↓iEnA, ↓iZp, ↓sFor, fAppend, fExtend, fPop, fPopAt, fInsert, fGet2, fSetdef, fFind, fSame, kL, kT, kD, dv, ↓mTRg, ↓nLRg, ↓rg1, ↓rg2, ↓oN, ↓oS, ↓tYs, ↓nDct, List.getElem?_cons_zero, List.getElem?_cons_succ, List.set_cons_zero, List.set_cons_succ, List.length_cons, List.length_nil, Option.map_some, Option.map_none, Option.bind_some, Option.bind_none, List.append_nil, List.nil_append, List.cons_append, Bool.false_eq_true, reduceCtorEq, ↓reduceIte, ↓relF, rel, ↓runB, List.map_cons, List.map_nil, List.replicate, Nat.reduceSub, Nat.reduceAdd, Nat.reduceEqDiff, and_self, true_and, and_true, decide_true, decide_false, Bool.and_true, Bool.true_and, Bool.not_true, Bool.not_false, Nat.reduceLT, Nat.reduceLeDiff, Nat.zero_lt_succ, ↓dropS, wipeS, restS, pls_tZs, iCnt, countP_ints, dep59, dmin1, dmin0, deq_nil, Nat.zero_add, ↓turn, rng0, Int.toNat_natCast, forGo_nil0, forGo_cons0, sz0, sz1, sz2, sz3, sz4, sz5, ↓iEnA, pl, pls, py, pys, pl_tZ', py_tZ', pls_ints', pys_ints, PyData.depth, Nat.min_zero, Nat.zero_min, Nat.zero_le, deq_int, and_self, true_and]) (fun p _ _ => by simp only [↓mPure, ↓mBind, ↓vr, ↓pk, ↓cs, ↓oD, ↓m2, ↓m1, ↓mB, ↓mCall, ↓mMeth, ↓mMt, ↓mMt2, ↓mCb, ↓nCb, ↓mIs, ↓mCh, ↓mSl, ↓mRev, ↓mFl, ↓sFl, ↓nFz, ↓nBx, ↓nLst, ↓nTup, ↓aN, ↓aC, ↓aS, ↓avN, ↓avV, ↓avO, ↓sParA, ↓stAV, ↓sNx, ↓sBk, ↓sCt, ↓sNo, ↓sSeq, ↓sRet, ↓sDrop, ↓sIf, ↓sSet, ↓sAsg, ↓sOwn, ↓gN, ↓gsN, ↓gsC, ↓gT, ↓gSb, ↓gFl, stO, obR, cellR, setC, objAt, vw, vwD, lsV, itV, itD, lsOf, Ob.fz, fI, gAdd, gEq, gIn, gIs, gIx, gNeg, gInt, gAbs, gLen, gSum, gAll, gMax2, gMin2, gReprB, gList, gTuple, gSrt, gMM, ↓tAnd, ↓tOr, ↓tNot, ↓vAnd, ↓vOr, ↓vNot, ↓vIf, ↓iV, ↓iR1, ↓iR2, ↓iEnA, ↓iZp, ↓sFor, fAppend, fExtend, fPop, fPopAt, fInsert, fGet2, fSetdef, fFind, fSame, kL, kT, kD, dv, ↓mTRg, ↓nLRg, ↓rg1, ↓rg2, ↓oN, ↓oS, ↓tYs, ↓nDct, List.getElem?_cons_zero, List.getElem?_cons_succ, List.set_cons_zero, List.set_cons_succ, List.length_cons, List.length_nil, Option.map_some, Option.map_none, Option.bind_some, Option.bind_none, List.append_nil, List.nil_append, List.cons_append, Bool.false_eq_true, reduceCtorEq, ↓reduceIte, ↓relF, rel, ↓runB, List.map_cons, List.map_nil, List.replicate, Nat.reduceSub, Nat.reduceAdd, Nat.reduceEqDiff, and_self, true_and, and_true, decide_true, decide_false, Bool.and_true, Bool.true_and, Bool.not_true, Bool.not_false, Nat.reduceLT, Nat.reduceLeDiff, Nat.zero_lt_succ, ↓dropS, wipeS, restS, pls_tZs, iCnt, countP_ints, dep59, dmin1, dmin0, deq_nil, Nat.zero_add, ↓turn, rng0, Int.toNat_natCast, forGo_nil0, forGo_cons0, sz0, sz1, sz2, sz3, sz4, sz5, ↓iEnA, pl, pls, py, pys, pl_tZ', py_tZ', pls_ints', pys_ints, PyData.depth, Nat.min_zero, Nat.zero_min, Nat.zero_le, deq_int, and_self, true_and]) (fun p _ => rfl)
  exact f_by [(some (SV.val (tZ m))), (some (SV.val (.int r))), none, none] rfl rfl (by simp only [↓mPure, ↓mBind, ↓vr, ↓pk, ↓cs, ↓oD, ↓m2, ↓m1, ↓mB, ↓mCall, ↓mMeth, ↓mMt, ↓mMt2, ↓mCb, ↓nCb, ↓mIs, ↓mCh, ↓mSl, ↓mRev, ↓mFl, ↓sFl, ↓nFz, ↓nBx, ↓nLst, ↓nTup, ↓aN, ↓aC, ↓aS, ↓avN, ↓avV, ↓avO, ↓sParA, ↓stAV, ↓sNx, ↓sBk, ↓sCt, ↓sNo, ↓sSeq, ↓sRet, ↓sDrop, ↓sIf, ↓sSet, ↓sAsg, ↓sOwn, ↓gN, ↓gsN, ↓gsC, ↓gT, ↓gSb, ↓gFl, stO, obR, cellR, setC, objAt, vw, vwD, lsV, itV, itD, lsOf, Ob.fz, fI, gAdd, gEq, gIn, gIs, gIx, gNeg, gInt, gAbs, gLen, gSum, gAll, gMax2, gMin2, gReprB, gList, gTuple, gSrt, gMM, ↓tAnd, ↓tOr, ↓tNot, ↓vAnd, ↓vOr, ↓vNot, ↓vIf, ↓iV, ↓iR1, ↓iR2, ↓iEnA, ↓iZp, ↓sFor, fAppend, fExtend, fPop, fPopAt, fInsert, fGet2, fSetdef, fFind, fSame, kL, kT, kD, dv, ↓mTRg, ↓nLRg, ↓rg1, ↓rg2, ↓oN, ↓oS, ↓tYs, ↓nDct, List.getElem?_cons_zero, List.getElem?_cons_succ, List.set_cons_zero, List.set_cons_succ, List.length_cons, List.length_nil, Option.map_some, Option.map_none, Option.bind_some, Option.bind_none, List.append_nil, List.nil_append, List.cons_append, Bool.false_eq_true, reduceCtorEq, ↓reduceIte, ↓relF, rel, ↓runB, List.map_cons, List.map_nil, List.replicate, Nat.reduceSub, Nat.reduceAdd, Nat.reduceEqDiff, and_self, true_and, and_true, decide_true, decide_false, Bool.and_true, Bool.true_and, Bool.not_true, Bool.not_false, Nat.reduceLT, Nat.reduceLeDiff, Nat.zero_lt_succ, ↓dropS, wipeS, restS, pls_tZs, iCnt, countP_ints, dep59, dmin1, dmin0, deq_nil, Nat.zero_add, ↓turn, rng0, Int.toNat_natCast, forGo_nil0, forGo_cons0, sz0, sz1, sz2, sz3, sz4, sz5, ↓iEnA, pl, pls, py, pys, pl_tZ', py_tZ', pls_ints', pys_ints, PyData.depth, Nat.min_zero, Nat.zero_min, Nat.zero_le, deq_int, and_self, true_and, ↓b_spots_of, ↓q, spk_zip]) rfl
theorem at_sp {m : Mg} {r : Int} {a : Nat} (h : a < m.count r) : L2.atI ((spk r 0 m).map D.int) (a : Int) = some (.int ((spk r 0 m).getD a 0)) := by
  have hl : a < (spk r 0 m).length := by rw [spk_len]; exact h
  rw [atI_map _ _ _ hl, List.getD_eq_getElem?_getD, List.getElem?_eq_getElem hl]
  rfl
theorem e_is_less (m : Mg) (a t : Nat) (S : Sto) (hm : m.length ≤ sizeLine) (ha : a < m.count 0) (ht : t < m.count 1) : f_is_less [tZ m, .int a, .int t] S = some (.bl (lessB a t m), S) :=
  f_by [(some (SV.val (tZ m))), (some (SV.val (.int a))), (some (SV.val (.int t)))] rfl rfl (by
    have s0 := e_spots_of m 0 S hm
    have s1 := e_spots_of m 1 S hm
    simp only [↓mPure, ↓mBind, ↓vr, ↓pk, ↓cs, ↓oD, ↓m2, ↓m1, ↓mB, ↓mCall, ↓mMeth, ↓mMt, ↓mMt2, ↓mCb, ↓nCb, ↓mIs, ↓mCh, ↓mSl, ↓mRev, ↓mFl, ↓sFl, ↓nFz, ↓nBx, ↓nLst, ↓nTup, ↓aN, ↓aC, ↓aS, ↓avN, ↓avV, ↓avO, ↓sParA, ↓stAV, ↓sNx, ↓sBk, ↓sCt, ↓sNo, ↓sSeq, ↓sRet, ↓sDrop, ↓sIf, ↓sSet, ↓sAsg, ↓sOwn, ↓gN, ↓gsN, ↓gsC, ↓gT, ↓gSb, ↓gFl, stO, obR, cellR, setC, objAt, vw, vwD, lsV, itV, itD, lsOf, Ob.fz, fI, gAdd, gEq, gIn, gIs, gIx, gNeg, gInt, gAbs, gLen, gSum, gAll, gMax2, gMin2, gReprB, gList, gTuple, gSrt, gMM, ↓tAnd, ↓tOr, ↓tNot, ↓vAnd, ↓vOr, ↓vNot, ↓vIf, ↓iV, ↓iR1, ↓iR2, ↓iEnA, ↓iZp, ↓sFor, fAppend, fExtend, fPop, fPopAt, fInsert, fGet2, fSetdef, fFind, fSame, kL, kT, kD, dv, ↓mTRg, ↓nLRg, ↓rg1, ↓rg2, ↓oN, ↓oS, ↓tYs, ↓nDct, List.getElem?_cons_zero, List.getElem?_cons_succ, List.set_cons_zero, List.set_cons_succ, List.length_cons, List.length_nil, Option.map_some, Option.map_none, Option.bind_some, Option.bind_none, List.append_nil, List.nil_append, List.cons_append, Bool.false_eq_true, reduceCtorEq, ↓reduceIte, ↓relF, rel, ↓runB, List.map_cons, List.map_nil, List.replicate, Nat.reduceSub, Nat.reduceAdd, Nat.reduceEqDiff, and_self, true_and, and_true, decide_true, decide_false, Bool.and_true, Bool.true_and, Bool.not_true, Bool.not_false, Nat.reduceLT, Nat.reduceLeDiff, Nat.zero_lt_succ, ↓dropS, wipeS, restS, pls_tZs, iCnt, countP_ints, dep59, dmin1, dmin0, deq_nil, Nat.zero_add, ↓turn, rng0, Int.toNat_natCast, forGo_nil0, forGo_cons0, sz0, sz1, sz2, sz3, sz4, sz5, ↓iEnA, pl, pls, py, pys, pl_tZ', py_tZ', pls_ints', pys_ints, PyData.depth, Nat.min_zero, Nat.zero_min, Nat.zero_le, deq_int, and_self, true_and, ↓b_is_less, s0, s1, at_sp ha, at_sp ht]
    rfl) rfl
/-- what a, t can be asked of -/
structure Ask (a t : Nat) (S : List Mg) : Prop where
  ln : S.length ≤ sizeLine
  el : ∀ m ∈ S, m.length ≤ sizeLine ∧ a < m.count 0 ∧ t < m.count 1
theorem e_parted (S : List Mg) (a t : Nat) (St : Sto) (h : Ask a t S) : f_parted [tM S, .int a, .int t] St = some (.tup [tM (Lo a t S), tM (Mo a t S)], St) := by
  have q1 : nLc (iV (vr 0)) (gN 4) (mB (mCall f_is_less [] (aC (vr 4) (aC (vr 1) (aC (vr 2) aN))))) (vr 4) [4] [(some (SV.val (tM S))), (some (SV.val (.int a))), (some (SV.val (.int t))), none, none] St = some (.lst ((Lo a t S).map fun m => tZ m), [(some (SV.val (tM S))), (some (SV.val (.int a))), (some (SV.val (.int t))), none, none], St) :=
    nLc_f (inj := fun m => tZ m) (sl2 := [(some (SV.val (tM S))), (some (SV.val (.int a))), (some (SV.val (.int t))), none, none]) (fun m : Mg => [(some (SV.val (tM S))), (some (SV.val (.int a))), (some (SV.val (.int t))), none, (some (SV.val (tZ m)))]) (lessB a t) (fun m => tZ m) S
    (by simp only [↓mPure, ↓mBind, ↓vr, ↓pk, ↓cs, ↓oD, ↓m2, ↓m1, ↓mB, ↓mCall, ↓mMeth, ↓mMt, ↓mMt2, ↓mCb, ↓nCb, ↓mIs, ↓mCh, ↓mSl, ↓mRev, ↓mFl, ↓sFl, ↓nFz, ↓nBx, ↓nLst, ↓nTup, ↓aN, ↓aC, ↓aS, ↓avN, ↓avV, ↓avO, ↓sParA, ↓stAV, ↓sNx, ↓sBk, ↓sCt, ↓sNo, ↓sSeq, ↓sRet, ↓sDrop, ↓sIf, ↓sSet, ↓sAsg, ↓sOwn, ↓gN, ↓gsN, ↓gsC, ↓gT, ↓gSb, ↓gFl, stO, obR, cellR, setC, objAt, vw, vwD, lsV, itV, itD, lsOf, Ob.fz, fI, gAdd, gEq, gIn, gIs, gIx, gNeg, gInt, gAbs, gLen, gSum, gAll, gMax2, gMin2, gReprB, gList, gTuple, gSrt, gMM, ↓tAnd, ↓tOr, ↓tNot, ↓vAnd, ↓vOr, ↓vNot, ↓vIf, ↓iV, ↓iR1, ↓iR2, ↓iEnA, ↓iZp, ↓sFor, fAppend, fExtend, fPop, fPopAt, fInsert, fGet2, fSetdef, fFind, fSame, kL, kT, kD, dv, ↓mTRg, ↓nLRg, ↓rg1, ↓rg2, ↓oN, ↓oS, ↓tYs, ↓nDct, List.getElem?_cons_zero, List.getElem?_cons_succ, List.set_cons_zero, List.set_cons_succ, List.length_cons, List.length_nil, Option.map_some, Option.map_none, Option.bind_some, Option.bind_none, List.append_nil, List.nil_append, List.cons_append, Bool.false_eq_true, reduceCtorEq, ↓reduceIte, ↓relF, rel, ↓runB, List.map_cons, List.map_nil, List.replicate, Nat.reduceSub, Nat.reduceAdd, Nat.reduceEqDiff, and_self, true_and, and_true, decide_true, decide_false, Bool.and_true, Bool.true_and, Bool.not_true, Bool.not_false, Nat.reduceLT, Nat.reduceLeDiff, Nat.zero_lt_succ, ↓dropS, wipeS, restS, pls_tZs, iCnt, countP_ints, dep59, dmin1, dmin0, deq_nil, Nat.zero_add, ↓turn, rng0, Int.toNat_natCast, forGo_nil0, forGo_cons0, sz0, sz1, sz2, sz3, sz4, sz5, ↓iEnA, pl, pls, py, pys, pl_tZ', py_tZ', pls_ints', pys_ints, PyData.depth, Nat.min_zero, Nat.zero_min, Nat.zero_le, deq_int, and_self, true_and]) rfl rfl rfl h.ln (fun m _ => by simp only [↓mPure, ↓mBind, ↓vr, ↓pk, ↓cs, ↓oD, ↓m2, ↓m1, ↓mB, ↓mCall, ↓mMeth, ↓mMt, ↓mMt2, ↓mCb, ↓nCb, ↓mIs, ↓mCh, ↓mSl, ↓mRev, ↓mFl, ↓sFl, ↓nFz, ↓nBx, ↓nLst, ↓nTup, ↓aN, ↓aC, ↓aS, ↓avN, ↓avV, ↓avO, ↓sParA, ↓stAV, ↓sNx, ↓sBk, ↓sCt, ↓sNo, ↓sSeq, ↓sRet, ↓sDrop, ↓sIf, ↓sSet, ↓sAsg, ↓sOwn, ↓gN, ↓gsN, ↓gsC, ↓gT, ↓gSb, ↓gFl, stO, obR, cellR, setC, objAt, vw, vwD, lsV, itV, itD, lsOf, Ob.fz, fI, gAdd, gEq, gIn, gIs, gIx, gNeg, gInt, gAbs, gLen, gSum, gAll, gMax2, gMin2, gReprB, gList, gTuple, gSrt, gMM, ↓tAnd, ↓tOr, ↓tNot, ↓vAnd, ↓vOr, ↓vNot, ↓vIf, ↓iV, ↓iR1, ↓iR2, ↓iEnA, ↓iZp, ↓sFor, fAppend, fExtend, fPop, fPopAt, fInsert, fGet2, fSetdef, fFind, fSame, kL, kT, kD, dv, ↓mTRg, ↓nLRg, ↓rg1, ↓rg2, ↓oN, ↓oS, ↓tYs, ↓nDct, List.getElem?_cons_zero, List.getElem?_cons_succ, List.set_cons_zero, List.set_cons_succ, List.length_cons, List.length_nil, Option.map_some, Option.map_none, Option.bind_some, Option.bind_none, List.append_nil, List.nil_append, List.cons_append, Bool.false_eq_true, reduceCtorEq, ↓reduceIte, ↓relF, rel, ↓runB, List.map_cons, List.map_nil, List.replicate, Nat.reduceSub, Nat.reduceAdd, Nat.reduceEqDiff, and_self, true_and, and_true, decide_true, decide_false, Bool.and_true, Bool.true_and, Bool.not_true, Bool.not_false, Nat.reduceLT, Nat.reduceLeDiff, Nat.zero_lt_succ, ↓dropS, wipeS, restS, pls_tZs, iCnt, countP_ints, dep59, dmin1, dmin0, deq_nil, Nat.zero_add, ↓turn, rng0, Int.toNat_natCast, forGo_nil0, forGo_cons0, sz0, sz1, sz2, sz3, sz4, sz5, ↓iEnA, pl, pls, py, pys, pl_tZ', py_tZ', pls_ints', pys_ints, PyData.depth, Nat.min_zero, Nat.zero_min, Nat.zero_le, deq_int, and_self, true_and]) (fun m hm => by
      have e := e_is_less m a t St (h.el m hm).1 (h.el m hm).2.1 (h.el m hm).2.2
      simp only [↓mPure, ↓mBind, ↓vr, ↓pk, ↓cs, ↓oD, ↓m2, ↓m1, ↓mB, ↓mCall, ↓mMeth, ↓mMt, ↓mMt2, ↓mCb, ↓nCb, ↓mIs, ↓mCh, ↓mSl, ↓mRev, ↓mFl, ↓sFl, ↓nFz, ↓nBx, ↓nLst, ↓nTup, ↓aN, ↓aC, ↓aS, ↓avN, ↓avV, ↓avO, ↓sParA, ↓stAV, ↓sNx, ↓sBk, ↓sCt, ↓sNo, ↓sSeq, ↓sRet, ↓sDrop, ↓sIf, ↓sSet, ↓sAsg, ↓sOwn, ↓gN, ↓gsN, ↓gsC, ↓gT, ↓gSb, ↓gFl, stO, obR, cellR, setC, objAt, vw, vwD, lsV, itV, itD, lsOf, Ob.fz, fI, gAdd, gEq, gIn, gIs, gIx, gNeg, gInt, gAbs, gLen, gSum, gAll, gMax2, gMin2, gReprB, gList, gTuple, gSrt, gMM, ↓tAnd, ↓tOr, ↓tNot, ↓vAnd, ↓vOr, ↓vNot, ↓vIf, ↓iV, ↓iR1, ↓iR2, ↓iEnA, ↓iZp, ↓sFor, fAppend, fExtend, fPop, fPopAt, fInsert, fGet2, fSetdef, fFind, fSame, kL, kT, kD, dv, ↓mTRg, ↓nLRg, ↓rg1, ↓rg2, ↓oN, ↓oS, ↓tYs, ↓nDct, List.getElem?_cons_zero, List.getElem?_cons_succ, List.set_cons_zero, List.set_cons_succ, List.length_cons, List.length_nil, Option.map_some, Option.map_none, Option.bind_some, Option.bind_none, List.append_nil, List.nil_append, List.cons_append, Bool.false_eq_true, reduceCtorEq, ↓reduceIte, ↓relF, rel, ↓runB, List.map_cons, List.map_nil, List.replicate, Nat.reduceSub, Nat.reduceAdd, Nat.reduceEqDiff, and_self, true_and, and_true, decide_true, decide_false, Bool.and_true, Bool.true_and, Bool.not_true, Bool.not_false, Nat.reduceLT, Nat.reduceLeDiff, Nat.zero_lt_succ, ↓dropS, wipeS, restS, pls_tZs, iCnt, countP_ints, dep59, dmin1, dmin0, deq_nil, Nat.zero_add, ↓turn, rng0, Int.toNat_natCast, forGo_nil0, forGo_cons0, sz0, sz1, sz2, sz3, sz4, sz5, ↓iEnA, pl, pls, py, pys, pl_tZ', py_tZ', pls_ints', pys_ints, PyData.depth, Nat.min_zero, Nat.zero_min, Nat.zero_le, deq_int, and_self, true_and, e]) (fun m _ _ => by simp only [↓mPure, ↓mBind, ↓vr, ↓pk, ↓cs, ↓oD, ↓m2, ↓m1, ↓mB, ↓mCall, ↓mMeth, ↓mMt, ↓mMt2, ↓mCb, ↓nCb, ↓mIs, ↓mCh, ↓mSl, ↓mRev, ↓mFl, ↓sFl, ↓nFz, ↓nBx, ↓nLst, ↓nTup, ↓aN, ↓aC, ↓aS, ↓avN, ↓avV, ↓avO, ↓sParA, ↓stAV, ↓sNx, ↓sBk, ↓sCt, ↓sNo, ↓sSeq, ↓sRet, ↓sDrop, ↓sIf, ↓sSet, ↓sAsg, ↓sOwn, ↓gN, ↓gsN, ↓gsC, ↓gT, ↓gSb, ↓gFl, stO, obR, cellR, setC, objAt, vw, vwD, lsV, itV, itD, lsOf, Ob.fz, fI, gAdd, gEq, gIn, gIs, gIx, gNeg, gInt, gAbs, gLen, gSum, gAll, gMax2, gMin2, gReprB, gList, gTuple, gSrt, gMM, ↓tAnd, ↓tOr, ↓tNot, ↓vAnd, ↓vOr, ↓vNot, ↓vIf, ↓iV, ↓iR1, ↓iR2, ↓iEnA, ↓iZp, ↓sFor, fAppend, fExtend, fPop, fPopAt, fInsert, fGet2, fSetdef, fFind, fSame, kL, kT, kD, dv, ↓mTRg, ↓nLRg, ↓rg1, ↓rg2, ↓oN, ↓oS, ↓tYs, ↓nDct, List.getElem?_cons_zero, List.getElem?_cons_succ, List.set_cons_zero, List.set_cons_succ, List.length_cons, List.length_nil, Option.map_some, Option.map_none, Option.bind_some, Option.bind_none, List.append_nil, List.nil_append, List.cons_append, Bool.false_eq_true, reduceCtorEq, ↓reduceIte, ↓relF, rel, ↓runB, List.map_cons, List.map_nil, List.replicate, Nat.reduceSub, Nat.reduceAdd, Nat.reduceEqDiff, and_self, true_and, and_true, decide_true, decide_false, Bool.and_true, Bool.true_and, Bool.not_true, Bool.not_false, Nat.reduceLT, Nat.reduceLeDiff, Nat.zero_lt_succ, ↓dropS, wipeS, restS, pls_tZs, iCnt, countP_ints, dep59, dmin1, dmin0, deq_nil, Nat.zero_add, ↓turn, rng0, Int.toNat_natCast, forGo_nil0, forGo_cons0, sz0, sz1, sz2, sz3, sz4, sz5, ↓iEnA, pl, pls, py, pys, pl_tZ', py_tZ', pls_ints', pys_ints, PyData.depth, Nat.min_zero, Nat.zero_min, Nat.zero_le, deq_int, and_self, true_and]) (fun m _ => rfl)
  have q2 : nLc (iV (vr 0)) (gN 4) (mB (m2 (gIn true) (pk 4) (pk 3))) (vr 4) [4] [(some (SV.val (tM S))), (some (SV.val (.int a))), (some (SV.val (.int t))), (some (SV.own (.lst ((Lo a t S).map fun m => tZ m)))), none] St = some (.lst ((Mo a t S).map fun m => tZ m), [(some (SV.val (tM S))), (some (SV.val (.int a))), (some (SV.val (.int t))), (some (SV.own (.lst ((Lo a t S).map fun m => tZ m)))), none], St) :=
    nLc_f (inj := fun m => tZ m) (sl2 := [(some (SV.val (tM S))), (some (SV.val (.int a))), (some (SV.val (.int t))), (some (SV.own (.lst ((Lo a t S).map fun m => tZ m)))), none]) (fun m : Mg => [(some (SV.val (tM S))), (some (SV.val (.int a))), (some (SV.val (.int t))), (some (SV.own (.lst ((Lo a t S).map fun m => tZ m)))), (some (SV.val (tZ m)))]) (fun m => !lessB a t m) (fun m => tZ m) S
    (by simp only [↓mPure, ↓mBind, ↓vr, ↓pk, ↓cs, ↓oD, ↓m2, ↓m1, ↓mB, ↓mCall, ↓mMeth, ↓mMt, ↓mMt2, ↓mCb, ↓nCb, ↓mIs, ↓mCh, ↓mSl, ↓mRev, ↓mFl, ↓sFl, ↓nFz, ↓nBx, ↓nLst, ↓nTup, ↓aN, ↓aC, ↓aS, ↓avN, ↓avV, ↓avO, ↓sParA, ↓stAV, ↓sNx, ↓sBk, ↓sCt, ↓sNo, ↓sSeq, ↓sRet, ↓sDrop, ↓sIf, ↓sSet, ↓sAsg, ↓sOwn, ↓gN, ↓gsN, ↓gsC, ↓gT, ↓gSb, ↓gFl, stO, obR, cellR, setC, objAt, vw, vwD, lsV, itV, itD, lsOf, Ob.fz, fI, gAdd, gEq, gIn, gIs, gIx, gNeg, gInt, gAbs, gLen, gSum, gAll, gMax2, gMin2, gReprB, gList, gTuple, gSrt, gMM, ↓tAnd, ↓tOr, ↓tNot, ↓vAnd, ↓vOr, ↓vNot, ↓vIf, ↓iV, ↓iR1, ↓iR2, ↓iEnA, ↓iZp, ↓sFor, fAppend, fExtend, fPop, fPopAt, fInsert, fGet2, fSetdef, fFind, fSame, kL, kT, kD, dv, ↓mTRg, ↓nLRg, ↓rg1, ↓rg2, ↓oN, ↓oS, ↓tYs, ↓nDct, List.getElem?_cons_zero, List.getElem?_cons_succ, List.set_cons_zero, List.set_cons_succ, List.length_cons, List.length_nil, Option.map_some, Option.map_none, Option.bind_some, Option.bind_none, List.append_nil, List.nil_append, List.cons_append, Bool.false_eq_true, reduceCtorEq, ↓reduceIte, ↓relF, rel, ↓runB, List.map_cons, List.map_nil, List.replicate, Nat.reduceSub, Nat.reduceAdd, Nat.reduceEqDiff, and_self, true_and, and_true, decide_true, decide_false, Bool.and_true, Bool.true_and, Bool.not_true, Bool.not_false, Nat.reduceLT, Nat.reduceLeDiff, Nat.zero_lt_succ, ↓dropS, wipeS, restS, pls_tZs, iCnt, countP_ints, dep59, dmin1, dmin0, deq_nil, Nat.zero_add, ↓turn, rng0, Int.toNat_natCast, forGo_nil0, forGo_cons0, sz0, sz1, sz2, sz3, sz4, sz5, ↓iEnA, pl, pls, py, pys, pl_tZ', py_tZ', pls_ints', pys_ints, PyData.depth, Nat.min_zero, Nat.zero_min, Nat.zero_le, deq_int, and_self, true_and]) rfl rfl rfl h.ln (fun m _ => by simp only [↓mPure, ↓mBind, ↓vr, ↓pk, ↓cs, ↓oD, ↓m2, ↓m1, ↓mB, ↓mCall, ↓mMeth, ↓mMt, ↓mMt2, ↓mCb, ↓nCb, ↓mIs, ↓mCh, ↓mSl, ↓mRev, ↓mFl, ↓sFl, ↓nFz, ↓nBx, ↓nLst, ↓nTup, ↓aN, ↓aC, ↓aS, ↓avN, ↓avV, ↓avO, ↓sParA, ↓stAV, ↓sNx, ↓sBk, ↓sCt, ↓sNo, ↓sSeq, ↓sRet, ↓sDrop, ↓sIf, ↓sSet, ↓sAsg, ↓sOwn, ↓gN, ↓gsN, ↓gsC, ↓gT, ↓gSb, ↓gFl, stO, obR, cellR, setC, objAt, vw, vwD, lsV, itV, itD, lsOf, Ob.fz, fI, gAdd, gEq, gIn, gIs, gIx, gNeg, gInt, gAbs, gLen, gSum, gAll, gMax2, gMin2, gReprB, gList, gTuple, gSrt, gMM, ↓tAnd, ↓tOr, ↓tNot, ↓vAnd, ↓vOr, ↓vNot, ↓vIf, ↓iV, ↓iR1, ↓iR2, ↓iEnA, ↓iZp, ↓sFor, fAppend, fExtend, fPop, fPopAt, fInsert, fGet2, fSetdef, fFind, fSame, kL, kT, kD, dv, ↓mTRg, ↓nLRg, ↓rg1, ↓rg2, ↓oN, ↓oS, ↓tYs, ↓nDct, List.getElem?_cons_zero, List.getElem?_cons_succ, List.set_cons_zero, List.set_cons_succ, List.length_cons, List.length_nil, Option.map_some, Option.map_none, Option.bind_some, Option.bind_none, List.append_nil, List.nil_append, List.cons_append, Bool.false_eq_true, reduceCtorEq, ↓reduceIte, ↓relF, rel, ↓runB, List.map_cons, List.map_nil, List.replicate, Nat.reduceSub, Nat.reduceAdd, Nat.reduceEqDiff, and_self, true_and, and_true, decide_true, decide_false, Bool.and_true, Bool.true_and, Bool.not_true, Bool.not_false, Nat.reduceLT, Nat.reduceLeDiff, Nat.zero_lt_succ, ↓dropS, wipeS, restS, pls_tZs, iCnt, countP_ints, dep59, dmin1, dmin0, deq_nil, Nat.zero_add, ↓turn, rng0, Int.toNat_natCast, forGo_nil0, forGo_cons0, sz0, sz1, sz2, sz3, sz4, sz5, ↓iEnA, pl, pls, py, pys, pl_tZ', py_tZ', pls_ints', pys_ints, PyData.depth, Nat.min_zero, Nat.zero_min, Nat.zero_le, deq_int, and_self, true_and]) (fun m hm => by
      have e : (((Lo a t S).map fun m => tZ m).any fun z => deq z (tZ m)) = lessB a t m := by
        rw [any_tZ]
        unfold Lo
        cases c : lessB a t m <;> simp [hm, c]
      simp only [↓mPure, ↓mBind, ↓vr, ↓pk, ↓cs, ↓oD, ↓m2, ↓m1, ↓mB, ↓mCall, ↓mMeth, ↓mMt, ↓mMt2, ↓mCb, ↓nCb, ↓mIs, ↓mCh, ↓mSl, ↓mRev, ↓mFl, ↓sFl, ↓nFz, ↓nBx, ↓nLst, ↓nTup, ↓aN, ↓aC, ↓aS, ↓avN, ↓avV, ↓avO, ↓sParA, ↓stAV, ↓sNx, ↓sBk, ↓sCt, ↓sNo, ↓sSeq, ↓sRet, ↓sDrop, ↓sIf, ↓sSet, ↓sAsg, ↓sOwn, ↓gN, ↓gsN, ↓gsC, ↓gT, ↓gSb, ↓gFl, stO, obR, cellR, setC, objAt, vw, vwD, lsV, itV, itD, lsOf, Ob.fz, fI, gAdd, gEq, gIn, gIs, gIx, gNeg, gInt, gAbs, gLen, gSum, gAll, gMax2, gMin2, gReprB, gList, gTuple, gSrt, gMM, ↓tAnd, ↓tOr, ↓tNot, ↓vAnd, ↓vOr, ↓vNot, ↓vIf, ↓iV, ↓iR1, ↓iR2, ↓iEnA, ↓iZp, ↓sFor, fAppend, fExtend, fPop, fPopAt, fInsert, fGet2, fSetdef, fFind, fSame, kL, kT, kD, dv, ↓mTRg, ↓nLRg, ↓rg1, ↓rg2, ↓oN, ↓oS, ↓tYs, ↓nDct, List.getElem?_cons_zero, List.getElem?_cons_succ, List.set_cons_zero, List.set_cons_succ, List.length_cons, List.length_nil, Option.map_some, Option.map_none, Option.bind_some, Option.bind_none, List.append_nil, List.nil_append, List.cons_append, Bool.false_eq_true, reduceCtorEq, ↓reduceIte, ↓relF, rel, ↓runB, List.map_cons, List.map_nil, List.replicate, Nat.reduceSub, Nat.reduceAdd, Nat.reduceEqDiff, and_self, true_and, and_true, decide_true, decide_false, Bool.and_true, Bool.true_and, Bool.not_true, Bool.not_false, Nat.reduceLT, Nat.reduceLeDiff, Nat.zero_lt_succ, ↓dropS, wipeS, restS, pls_tZs, iCnt, countP_ints, dep59, dmin1, dmin0, deq_nil, Nat.zero_add, ↓turn, rng0, Int.toNat_natCast, forGo_nil0, forGo_cons0, sz0, sz1, sz2, sz3, sz4, sz5, ↓iEnA, pl, pls, py, pys, pl_tZ', py_tZ', pls_ints', pys_ints, PyData.depth, Nat.min_zero, Nat.zero_min, Nat.zero_le, deq_int, and_self, true_and, e]) (fun m _ _ => by simp only [↓mPure, ↓mBind, ↓vr, ↓pk, ↓cs, ↓oD, ↓m2, ↓m1, ↓mB, ↓mCall, ↓mMeth, ↓mMt, ↓mMt2, ↓mCb, ↓nCb, ↓mIs, ↓mCh, ↓mSl, ↓mRev, ↓mFl, ↓sFl, ↓nFz, ↓nBx, ↓nLst, ↓nTup, ↓aN, ↓aC, ↓aS, ↓avN, ↓avV, ↓avO, ↓sParA, ↓stAV, ↓sNx, ↓sBk, ↓sCt, ↓sNo, ↓sSeq, ↓sRet, ↓sDrop, ↓sIf, ↓sSet, ↓sAsg, ↓sOwn, ↓gN, ↓gsN, ↓gsC, ↓gT, ↓gSb, ↓gFl, stO, obR, cellR, setC, objAt, vw, vwD, lsV, itV, itD, lsOf, Ob.fz, fI, gAdd, gEq, gIn, gIs, gIx, gNeg, gInt, gAbs, gLen, gSum, gAll, gMax2, gMin2, gReprB, gList, gTuple, gSrt, gMM, ↓tAnd, ↓tOr, ↓tNot, ↓vAnd, ↓vOr, ↓vNot, ↓vIf, ↓iV, ↓iR1, ↓iR2, ↓iEnA, ↓iZp, ↓sFor, fAppend, fExtend, fPop, fPopAt, fInsert, fGet2, fSetdef, fFind, fSame, kL, kT, kD, dv, ↓mTRg, ↓nLRg, ↓rg1, ↓rg2, ↓oN, ↓oS, ↓tYs, ↓nDct, List.getElem?_cons_zero, List.getElem?_cons_succ, List.set_cons_zero, List.set_cons_succ, List.length_cons, List.length_nil, Option.map_some, Option.map_none, Option.bind_some, Option.bind_none, List.append_nil, List.nil_append, List.cons_append, Bool.false_eq_true, reduceCtorEq, ↓reduceIte, ↓relF, rel, ↓runB, List.map_cons, List.map_nil, List.replicate, Nat.reduceSub, Nat.reduceAdd, Nat.reduceEqDiff, and_self, true_and, and_true, decide_true, decide_false, Bool.and_true, Bool.true_and, Bool.not_true, Bool.not_false, Nat.reduceLT, Nat.reduceLeDiff, Nat.zero_lt_succ, ↓dropS, wipeS, restS, pls_tZs, iCnt, countP_ints, dep59, dmin1, dmin0, deq_nil, Nat.zero_add, ↓turn, rng0, Int.toNat_natCast, forGo_nil0, forGo_cons0, sz0, sz1, sz2, sz3, sz4, sz5, ↓iEnA, pl, pls, py, pys, pl_tZ', py_tZ', pls_ints', pys_ints, PyData.depth, Nat.min_zero, Nat.zero_min, Nat.zero_le, deq_int, and_self, true_and]) (fun m _ => rfl)
  exact f_by [(some (SV.val (tM S))), (some (SV.val (.int a))), (some (SV.val (.int t))), none, none] rfl rfl (by simp only [↓mPure, ↓mBind, ↓vr, ↓pk, ↓cs, ↓oD, ↓m2, ↓m1, ↓mB, ↓mCall, ↓mMeth, ↓mMt, ↓mMt2, ↓mCb, ↓nCb, ↓mIs, ↓mCh, ↓mSl, ↓mRev, ↓mFl, ↓sFl, ↓nFz, ↓nBx, ↓nLst, ↓nTup, ↓aN, ↓aC, ↓aS, ↓avN, ↓avV, ↓avO, ↓sParA, ↓stAV, ↓sNx, ↓sBk, ↓sCt, ↓sNo, ↓sSeq, ↓sRet, ↓sDrop, ↓sIf, ↓sSet, ↓sAsg, ↓sOwn, ↓gN, ↓gsN, ↓gsC, ↓gT, ↓gSb, ↓gFl, stO, obR, cellR, setC, objAt, vw, vwD, lsV, itV, itD, lsOf, Ob.fz, fI, gAdd, gEq, gIn, gIs, gIx, gNeg, gInt, gAbs, gLen, gSum, gAll, gMax2, gMin2, gReprB, gList, gTuple, gSrt, gMM, ↓tAnd, ↓tOr, ↓tNot, ↓vAnd, ↓vOr, ↓vNot, ↓vIf, ↓iV, ↓iR1, ↓iR2, ↓iEnA, ↓iZp, ↓sFor, fAppend, fExtend, fPop, fPopAt, fInsert, fGet2, fSetdef, fFind, fSame, kL, kT, kD, dv, ↓mTRg, ↓nLRg, ↓rg1, ↓rg2, ↓oN, ↓oS, ↓tYs, ↓nDct, List.getElem?_cons_zero, List.getElem?_cons_succ, List.set_cons_zero, List.set_cons_succ, List.length_cons, List.length_nil, Option.map_some, Option.map_none, Option.bind_some, Option.bind_none, List.append_nil, List.nil_append, List.cons_append, Bool.false_eq_true, reduceCtorEq, ↓reduceIte, ↓relF, rel, ↓runB, List.map_cons, List.map_nil, List.replicate, Nat.reduceSub, Nat.reduceAdd, Nat.reduceEqDiff, and_self, true_and, and_true, decide_true, decide_false, Bool.and_true, Bool.true_and, Bool.not_true, Bool.not_false, Nat.reduceLT, Nat.reduceLeDiff, Nat.zero_lt_succ, ↓dropS, wipeS, restS, pls_tZs, iCnt, countP_ints, dep59, dmin1, dmin0, deq_nil, Nat.zero_add, ↓turn, rng0, Int.toNat_natCast, forGo_nil0, forGo_cons0, sz0, sz1, sz2, sz3, sz4, sz5, ↓iEnA, pl, pls, py, pys, pl_tZ', py_tZ', pls_ints', pys_ints, PyData.depth, Nat.min_zero, Nat.zero_min, Nat.zero_le, deq_int, and_self, true_and, ↓b_parted, ↓q1, ↓q2]) rfl
def wD (S : List Mg) (p : Nat × Nat) : D := .tup [.int p.1, .int p.2, tM (Lo p.1 p.2 S), tM (Mo p.1 p.2 S)]
def oneW (S : List Mg) (a t : Nat) : List D := if wok S (a, t) = true then [wD S (a, t)] else []
theorem oneW_len (S : List Mg) (a t : Nat) : (oneW S a t).length ≤ 1 := by unfold oneW; split <;> simp
theorem ways_eq (F G : Nat) (S : List Mg) : ((List.range F).flatMap fun a => (List.range G).flatMap (oneW S a)) = (ways F G S).map (wD S) := by
  unfold ways prs
  induction (List.range F) with
  | nil => rfl
  | cons a l ih =>
    rw [List.flatMap_cons, ih, List.flatMap_cons, List.filter_append, List.map_append]
    congr 1
    induction (List.range G) with
    | nil => rfl
    | cons t r ih2 =>
      rw [List.flatMap_cons, ih2, List.map_cons]
      unfold oneW
      by_cases h : wok S (a, t) = true
      · rw [if_pos h, List.filter_cons_of_pos h]; rfl
      · rw [if_neg h, List.filter_cons_of_neg h]; rfl
theorem ask_cond (S : List Mg) (a t : Nat) (F G : Int) (acc : D) (x : Option SV) (St : Sto) (ob : Ob) : tAnd (mB (m2 (gEq true) (pk 6) (oD (nTup aN)))) (mB (m2 (gEq true) (pk 7) (oD (nTup aN)))) [(some (SV.val (.int F))), (some (SV.val (.int G))), (some (SV.val (tM S))), (some (SV.own ob)), (some (SV.val (.int a))), (some (SV.val (.int t))), (some (SV.val (tM (Lo a t S)))), (some (SV.val (tM (Mo a t S))))] St =
    some (wok S (a, t), [(some (SV.val (.int F))), (some (SV.val (.int G))), (some (SV.val (tM S))), (some (SV.own ob)), (some (SV.val (.int a))), (some (SV.val (.int t))), (some (SV.val (tM (Lo a t S)))), (some (SV.val (tM (Mo a t S))))], St) := by
  unfold wok
  cases c1 : (Lo a t S).isEmpty <;> cases c2' : (Mo a t S).isEmpty <;> simp only [↓mPure, ↓mBind, ↓vr, ↓pk, ↓cs, ↓oD, ↓m2, ↓m1, ↓mB, ↓mCall, ↓mMeth, ↓mMt, ↓mMt2, ↓mCb, ↓nCb, ↓mIs, ↓mCh, ↓mSl, ↓mRev, ↓mFl, ↓sFl, ↓nFz, ↓nBx, ↓nLst, ↓nTup, ↓aN, ↓aC, ↓aS, ↓avN, ↓avV, ↓avO, ↓sParA, ↓stAV, ↓sNx, ↓sBk, ↓sCt, ↓sNo, ↓sSeq, ↓sRet, ↓sDrop, ↓sIf, ↓sSet, ↓sAsg, ↓sOwn, ↓gN, ↓gsN, ↓gsC, ↓gT, ↓gSb, ↓gFl, stO, obR, cellR, setC, objAt, vw, vwD, lsV, itV, itD, lsOf, Ob.fz, fI, gAdd, gEq, gIn, gIs, gIx, gNeg, gInt, gAbs, gLen, gSum, gAll, gMax2, gMin2, gReprB, gList, gTuple, gSrt, gMM, ↓tAnd, ↓tOr, ↓tNot, ↓vAnd, ↓vOr, ↓vNot, ↓vIf, ↓iV, ↓iR1, ↓iR2, ↓iEnA, ↓iZp, ↓sFor, fAppend, fExtend, fPop, fPopAt, fInsert, fGet2, fSetdef, fFind, fSame, kL, kT, kD, dv, ↓mTRg, ↓nLRg, ↓rg1, ↓rg2, ↓oN, ↓oS, ↓tYs, ↓nDct, List.getElem?_cons_zero, List.getElem?_cons_succ, List.set_cons_zero, List.set_cons_succ, List.length_cons, List.length_nil, Option.map_some, Option.map_none, Option.bind_some, Option.bind_none, List.append_nil, List.nil_append, List.cons_append, Bool.false_eq_true, reduceCtorEq, ↓reduceIte, ↓relF, rel, ↓runB, List.map_cons, List.map_nil, List.replicate, Nat.reduceSub, Nat.reduceAdd, Nat.reduceEqDiff, and_self, true_and, and_true, decide_true, decide_false, Bool.and_true, Bool.true_and, Bool.not_true, Bool.not_false, Nat.reduceLT, Nat.reduceLeDiff, Nat.zero_lt_succ, ↓dropS, wipeS, restS, pls_tZs, iCnt, countP_ints, dep59, dmin1, dmin0, deq_nil, Nat.zero_add, ↓turn, rng0, Int.toNat_natCast, forGo_nil0, forGo_cons0, sz0, sz1, sz2, sz3, sz4, sz5, ↓iEnA, pl, pls, py, pys, pl_tZ', py_tZ', pls_ints', pys_ints, PyData.depth, Nat.min_zero, Nat.zero_min, Nat.zero_le, deq_int, and_self, true_and, c1, c2', pls_tZs, Bool.and_false, Bool.false_and, Bool.and_self]
theorem ask_add (S : List Mg) (a t : Nat) (F G : Int) (c : List D) (St : Sto) (hc : c.length < sizeLine) : sDrop (mMt kL fAppend (pk 3) (aC (nTup (aC (vr 4) (aC (vr 5) (aC (vr 6) (aC (vr 7) aN))))) aN)) [(some (SV.val (.int F))), (some (SV.val (.int G))), (some (SV.val (tM S))), (some (SV.own (.lst c))), (some (SV.val (.int a))), (some (SV.val (.int t))), (some (SV.val (tM (Lo a t S)))), (some (SV.val (tM (Mo a t S))))] St =
    some (.nx, [(some (SV.val (.int F))), (some (SV.val (.int G))), (some (SV.val (tM S))), (some (SV.own (.lst (c ++ [wD S (a, t)])))), (some (SV.val (.int a))), (some (SV.val (.int t))), (some (SV.val (tM (Lo a t S)))), (some (SV.val (tM (Mo a t S))))], St) := by
  simp only [↓mPure, ↓mBind, ↓vr, ↓pk, ↓cs, ↓oD, ↓m2, ↓m1, ↓mB, ↓mCall, ↓mMeth, ↓mMt, ↓mMt2, ↓mCb, ↓nCb, ↓mIs, ↓mCh, ↓mSl, ↓mRev, ↓mFl, ↓sFl, ↓nFz, ↓nBx, ↓nLst, ↓nTup, ↓aN, ↓aC, ↓aS, ↓avN, ↓avV, ↓avO, ↓sParA, ↓stAV, ↓sNx, ↓sBk, ↓sCt, ↓sNo, ↓sSeq, ↓sRet, ↓sDrop, ↓sIf, ↓sSet, ↓sAsg, ↓sOwn, ↓gN, ↓gsN, ↓gsC, ↓gT, ↓gSb, ↓gFl, stO, obR, cellR, setC, objAt, vw, vwD, lsV, itV, itD, lsOf, Ob.fz, fI, gAdd, gEq, gIn, gIs, gIx, gNeg, gInt, gAbs, gLen, gSum, gAll, gMax2, gMin2, gReprB, gList, gTuple, gSrt, gMM, ↓tAnd, ↓tOr, ↓tNot, ↓vAnd, ↓vOr, ↓vNot, ↓vIf, ↓iV, ↓iR1, ↓iR2, ↓iEnA, ↓iZp, ↓sFor, fAppend, fExtend, fPop, fPopAt, fInsert, fGet2, fSetdef, fFind, fSame, kL, kT, kD, dv, ↓mTRg, ↓nLRg, ↓rg1, ↓rg2, ↓oN, ↓oS, ↓tYs, ↓nDct, List.getElem?_cons_zero, List.getElem?_cons_succ, List.set_cons_zero, List.set_cons_succ, List.length_cons, List.length_nil, Option.map_some, Option.map_none, Option.bind_some, Option.bind_none, List.append_nil, List.nil_append, List.cons_append, Bool.false_eq_true, reduceCtorEq, ↓reduceIte, ↓relF, rel, ↓runB, List.map_cons, List.map_nil, List.replicate, Nat.reduceSub, Nat.reduceAdd, Nat.reduceEqDiff, and_self, true_and, and_true, decide_true, decide_false, Bool.and_true, Bool.true_and, Bool.not_true, Bool.not_false, Nat.reduceLT, Nat.reduceLeDiff, Nat.zero_lt_succ, ↓dropS, wipeS, restS, pls_tZs, iCnt, countP_ints, dep59, dmin1, dmin0, deq_nil, Nat.zero_add, ↓turn, rng0, Int.toNat_natCast, forGo_nil0, forGo_cons0, sz0, sz1, sz2, sz3, sz4, sz5, ↓iEnA, pl, pls, py, pys, pl_tZ', py_tZ', pls_ints', pys_ints, PyData.depth, Nat.min_zero, Nat.zero_min, Nat.zero_le, deq_int, and_self, true_and, hc, wD]
theorem ask_turn (S : List Mg) (a t : Nat) (F G : Int) (c : List D) (x2 : Option SV × Option SV × Option SV) (St : Sto) (hc : c.length < sizeLine) (h : Ask a t S) : turn (gN 5) (sSeq (sAsg (mCall f_parted [] (aC (vr 2) (aC (vr 4) (aC (vr 5) aN)))) (gT 2 (gsC (gN 6) (gsC (gN 7) gsN)))) (sIf (tAnd (mB (m2 (gEq true) (pk 6) (oD (nTup aN)))) (mB (m2 (gEq true) (pk 7) (oD (nTup aN))))) (sDrop (mMt kL fAppend (pk 3) (aC (nTup (aC (vr 4) (aC (vr 5) (aC (vr 6) (aC (vr 7) aN))))) aN))) sNx)) (.int t) [(some (SV.val (.int F))), (some (SV.val (.int G))), (some (SV.val (tM S))), (some (SV.own (.lst c))), (some (SV.val (.int a))), x2.1, x2.2.1, x2.2.2] St =
    some (.nx, [(some (SV.val (.int F))), (some (SV.val (.int G))), (some (SV.val (tM S))), (some (SV.own (.lst (c ++ oneW S a t)))), (some (SV.val (.int a))), (some (SV.val (.int t))), (some (SV.val (tM (Lo a t S)))), (some (SV.val (tM (Mo a t S))))], St) := by
  have hp := e_parted S a t St h
  have e1 : sAsg (mCall f_parted [] (aC (vr 2) (aC (vr 4) (aC (vr 5) aN)))) (gT 2 (gsC (gN 6) (gsC (gN 7) gsN))) [(some (SV.val (.int F))), (some (SV.val (.int G))), (some (SV.val (tM S))), (some (SV.own (.lst c))), (some (SV.val (.int a))), (some (SV.val (.int t))), x2.2.1, x2.2.2] St = some (.nx, [(some (SV.val (.int F))), (some (SV.val (.int G))), (some (SV.val (tM S))), (some (SV.own (.lst c))), (some (SV.val (.int a))), (some (SV.val (.int t))), (some (SV.val (tM (Lo a t S)))), (some (SV.val (tM (Mo a t S))))], St) := by
    simp only [↓mPure, ↓mBind, ↓vr, ↓pk, ↓cs, ↓oD, ↓m2, ↓m1, ↓mB, ↓mCall, ↓mMeth, ↓mMt, ↓mMt2, ↓mCb, ↓nCb, ↓mIs, ↓mCh, ↓mSl, ↓mRev, ↓mFl, ↓sFl, ↓nFz, ↓nBx, ↓nLst, ↓nTup, ↓aN, ↓aC, ↓aS, ↓avN, ↓avV, ↓avO, ↓sParA, ↓stAV, ↓sNx, ↓sBk, ↓sCt, ↓sNo, ↓sSeq, ↓sRet, ↓sDrop, ↓sIf, ↓sSet, ↓sAsg, ↓sOwn, ↓gN, ↓gsN, ↓gsC, ↓gT, ↓gSb, ↓gFl, stO, obR, cellR, setC, objAt, vw, vwD, lsV, itV, itD, lsOf, Ob.fz, fI, gAdd, gEq, gIn, gIs, gIx, gNeg, gInt, gAbs, gLen, gSum, gAll, gMax2, gMin2, gReprB, gList, gTuple, gSrt, gMM, ↓tAnd, ↓tOr, ↓tNot, ↓vAnd, ↓vOr, ↓vNot, ↓vIf, ↓iV, ↓iR1, ↓iR2, ↓iEnA, ↓iZp, ↓sFor, fAppend, fExtend, fPop, fPopAt, fInsert, fGet2, fSetdef, fFind, fSame, kL, kT, kD, dv, ↓mTRg, ↓nLRg, ↓rg1, ↓rg2, ↓oN, ↓oS, ↓tYs, ↓nDct, List.getElem?_cons_zero, List.getElem?_cons_succ, List.set_cons_zero, List.set_cons_succ, List.length_cons, List.length_nil, Option.map_some, Option.map_none, Option.bind_some, Option.bind_none, List.append_nil, List.nil_append, List.cons_append, Bool.false_eq_true, reduceCtorEq, ↓reduceIte, ↓relF, rel, ↓runB, List.map_cons, List.map_nil, List.replicate, Nat.reduceSub, Nat.reduceAdd, Nat.reduceEqDiff, and_self, true_and, and_true, decide_true, decide_false, Bool.and_true, Bool.true_and, Bool.not_true, Bool.not_false, Nat.reduceLT, Nat.reduceLeDiff, Nat.zero_lt_succ, ↓dropS, wipeS, restS, pls_tZs, iCnt, countP_ints, dep59, dmin1, dmin0, deq_nil, Nat.zero_add, ↓turn, rng0, Int.toNat_natCast, forGo_nil0, forGo_cons0, sz0, sz1, sz2, sz3, sz4, sz5, ↓iEnA, pl, pls, py, pys, pl_tZ', py_tZ', pls_ints', pys_ints, PyData.depth, Nat.min_zero, Nat.zero_min, Nat.zero_le, deq_int, and_self, true_and, hp]
  have e0 : gN 5 (.int (t : Int)) [(some (SV.val (.int F))), (some (SV.val (.int G))), (some (SV.val (tM S))), (some (SV.own (.lst c))), (some (SV.val (.int a))), x2.1, x2.2.1, x2.2.2] St = some ([(some (SV.val (.int F))), (some (SV.val (.int G))), (some (SV.val (tM S))), (some (SV.own (.lst c))), (some (SV.val (.int a))), (some (SV.val (.int t))), x2.2.1, x2.2.2], St) := by simp only [↓mPure, ↓mBind, ↓vr, ↓pk, ↓cs, ↓oD, ↓m2, ↓m1, ↓mB, ↓mCall, ↓mMeth, ↓mMt, ↓mMt2, ↓mCb, ↓nCb, ↓mIs, ↓mCh, ↓mSl, ↓mRev, ↓mFl, ↓sFl, ↓nFz, ↓nBx, ↓nLst, ↓nTup, ↓aN, ↓aC, ↓aS, ↓avN, ↓avV, ↓avO, ↓sParA, ↓stAV, ↓sNx, ↓sBk, ↓sCt, ↓sNo, ↓sSeq, ↓sRet, ↓sDrop, ↓sIf, ↓sSet, ↓sAsg, ↓sOwn, ↓gN, ↓gsN, ↓gsC, ↓gT, ↓gSb, ↓gFl, stO, obR, cellR, setC, objAt, vw, vwD, lsV, itV, itD, lsOf, Ob.fz, fI, gAdd, gEq, gIn, gIs, gIx, gNeg, gInt, gAbs, gLen, gSum, gAll, gMax2, gMin2, gReprB, gList, gTuple, gSrt, gMM, ↓tAnd, ↓tOr, ↓tNot, ↓vAnd, ↓vOr, ↓vNot, ↓vIf, ↓iV, ↓iR1, ↓iR2, ↓iEnA, ↓iZp, ↓sFor, fAppend, fExtend, fPop, fPopAt, fInsert, fGet2, fSetdef, fFind, fSame, kL, kT, kD, dv, ↓mTRg, ↓nLRg, ↓rg1, ↓rg2, ↓oN, ↓oS, ↓tYs, ↓nDct, List.getElem?_cons_zero, List.getElem?_cons_succ, List.set_cons_zero, List.set_cons_succ, List.length_cons, List.length_nil, Option.map_some, Option.map_none, Option.bind_some, Option.bind_none, List.append_nil, List.nil_append, List.cons_append, Bool.false_eq_true, reduceCtorEq, ↓reduceIte, ↓relF, rel, ↓runB, List.map_cons, List.map_nil, List.replicate, Nat.reduceSub, Nat.reduceAdd, Nat.reduceEqDiff, and_self, true_and, and_true, decide_true, decide_false, Bool.and_true, Bool.true_and, Bool.not_true, Bool.not_false, Nat.reduceLT, Nat.reduceLeDiff, Nat.zero_lt_succ, ↓dropS, wipeS, restS, pls_tZs, iCnt, countP_ints, dep59, dmin1, dmin0, deq_nil, Nat.zero_add, ↓turn, rng0, Int.toNat_natCast, forGo_nil0, forGo_cons0, sz0, sz1, sz2, sz3, sz4, sz5, ↓iEnA, pl, pls, py, pys, pl_tZ', py_tZ', pls_ints', pys_ints, PyData.depth, Nat.min_zero, Nat.zero_min, Nat.zero_le, deq_int, and_self, true_and]
  unfold turn
  rw [e0]
  show sSeq _ _ _ _ = _
  rw [seq_nx e1]
  unfold sIf
  rw [ask_cond S a t F G .non none St]
  unfold oneW
  cases c1 : wok S (a, t)
  · simp only [Bool.false_eq_true, if_false, List.append_nil]; rfl
  · simp only [if_true]
    exact ask_add S a t F G c St hc
end K37

namespace K37
open PySem PS
theorem e_questions (F G : Nat) (S : List Mg) (St : Sto) (hF : F ≤ 5) (hG : G ≤ 5) (h : ∀ a t, a < F → t < G → Ask a t S) : f_questions [.int F, .int G, tM S] St = some (.lst ((ways F G S).map (wD S)), St) := by
  refine f_by [(some (SV.val (.int F))), (some (SV.val (.int G))), (some (SV.val (tM S))), none, none, none, none, none] rfl rfl ?_ rfl
  unfold b_questions
  refine seq_then (sl1 := [(some (SV.val (.int F))), (some (SV.val (.int G))), (some (SV.val (tM S))), (some (SV.own (.lst []))), none, none, none, none]) (S1 := St) (by simp only [↓mPure, ↓mBind, ↓vr, ↓pk, ↓cs, ↓oD, ↓m2, ↓m1, ↓mB, ↓mCall, ↓mMeth, ↓mMt, ↓mMt2, ↓mCb, ↓nCb, ↓mIs, ↓mCh, ↓mSl, ↓mRev, ↓mFl, ↓sFl, ↓nFz, ↓nBx, ↓nLst, ↓nTup, ↓aN, ↓aC, ↓aS, ↓avN, ↓avV, ↓avO, ↓sParA, ↓stAV, ↓sNx, ↓sBk, ↓sCt, ↓sNo, ↓sSeq, ↓sRet, ↓sDrop, ↓sIf, ↓sSet, ↓sAsg, ↓sOwn, ↓gN, ↓gsN, ↓gsC, ↓gT, ↓gSb, ↓gFl, stO, obR, cellR, setC, objAt, vw, vwD, lsV, itV, itD, lsOf, Ob.fz, fI, gAdd, gEq, gIn, gIs, gIx, gNeg, gInt, gAbs, gLen, gSum, gAll, gMax2, gMin2, gReprB, gList, gTuple, gSrt, gMM, ↓tAnd, ↓tOr, ↓tNot, ↓vAnd, ↓vOr, ↓vNot, ↓vIf, ↓iV, ↓iR1, ↓iR2, ↓iEnA, ↓iZp, ↓sFor, fAppend, fExtend, fPop, fPopAt, fInsert, fGet2, fSetdef, fFind, fSame, kL, kT, kD, dv, ↓mTRg, ↓nLRg, ↓rg1, ↓rg2, ↓oN, ↓oS, ↓tYs, ↓nDct, List.getElem?_cons_zero, List.getElem?_cons_succ, List.set_cons_zero, List.set_cons_succ, List.length_cons, List.length_nil, Option.map_some, Option.map_none, Option.bind_some, Option.bind_none, List.append_nil, List.nil_append, List.cons_append, Bool.false_eq_true, reduceCtorEq, ↓reduceIte, ↓relF, rel, ↓runB, List.map_cons, List.map_nil, List.replicate, Nat.reduceSub, Nat.reduceAdd, Nat.reduceEqDiff, and_self, true_and, and_true, decide_true, decide_false, Bool.and_true, Bool.true_and, Bool.not_true, Bool.not_false, Nat.reduceLT, Nat.reduceLeDiff, Nat.zero_lt_succ, ↓dropS, wipeS, restS, pls_tZs, iCnt, countP_ints, dep59, dmin1, dmin0, deq_nil, Nat.zero_add, ↓turn, rng0, Int.toNat_natCast, forGo_nil0, forGo_cons0, sz0, sz1, sz2, sz3, sz4, sz5, ↓iEnA, pl, pls, py, pys, pl_tZ', py_tZ', pls_ints', pys_ints, PyData.depth, Nat.min_zero, Nat.zero_min, Nat.zero_le, deq_int, and_self, true_and]) ?_
  refine sFor_then (inj := fun i => .int ((i : Nat) : Int)) (st := fun (x : Option SV × Option SV × Option SV × Option SV) acc => [(some (SV.val (.int F))), (some (SV.val (.int G))), (some (SV.val (tM S))), (some (SV.own (.lst acc))), x.1, x.2.1, x.2.2.1, x.2.2.2]) (sS := fun _ => St)
    (stp := fun acc a => acc ++ (List.range G).flatMap (oneW S a)) (I := fun pre acc => acc.length ≤ 5 * pre.length) (l0 := List.range F) (c := []) (x := (none, none, none, none))
    (iR1_nat (n := F) (by omega) (by simp only [↓mPure, ↓mBind, ↓vr, ↓pk, ↓cs, ↓oD, ↓m2, ↓m1, ↓mB, ↓mCall, ↓mMeth, ↓mMt, ↓mMt2, ↓mCb, ↓nCb, ↓mIs, ↓mCh, ↓mSl, ↓mRev, ↓mFl, ↓sFl, ↓nFz, ↓nBx, ↓nLst, ↓nTup, ↓aN, ↓aC, ↓aS, ↓avN, ↓avV, ↓avO, ↓sParA, ↓stAV, ↓sNx, ↓sBk, ↓sCt, ↓sNo, ↓sSeq, ↓sRet, ↓sDrop, ↓sIf, ↓sSet, ↓sAsg, ↓sOwn, ↓gN, ↓gsN, ↓gsC, ↓gT, ↓gSb, ↓gFl, stO, obR, cellR, setC, objAt, vw, vwD, lsV, itV, itD, lsOf, Ob.fz, fI, gAdd, gEq, gIn, gIs, gIx, gNeg, gInt, gAbs, gLen, gSum, gAll, gMax2, gMin2, gReprB, gList, gTuple, gSrt, gMM, ↓tAnd, ↓tOr, ↓tNot, ↓vAnd, ↓vOr, ↓vNot, ↓vIf, ↓iV, ↓iR1, ↓iR2, ↓iEnA, ↓iZp, ↓sFor, fAppend, fExtend, fPop, fPopAt, fInsert, fGet2, fSetdef, fFind, fSame, kL, kT, kD, dv, ↓mTRg, ↓nLRg, ↓rg1, ↓rg2, ↓oN, ↓oS, ↓tYs, ↓nDct, List.getElem?_cons_zero, List.getElem?_cons_succ, List.set_cons_zero, List.set_cons_succ, List.length_cons, List.length_nil, Option.map_some, Option.map_none, Option.bind_some, Option.bind_none, List.append_nil, List.nil_append, List.cons_append, Bool.false_eq_true, reduceCtorEq, ↓reduceIte, ↓relF, rel, ↓runB, List.map_cons, List.map_nil, List.replicate, Nat.reduceSub, Nat.reduceAdd, Nat.reduceEqDiff, and_self, true_and, and_true, decide_true, decide_false, Bool.and_true, Bool.true_and, Bool.not_true, Bool.not_false, Nat.reduceLT, Nat.reduceLeDiff, Nat.zero_lt_succ, ↓dropS, wipeS, restS, pls_tZs, iCnt, countP_ints, dep59, dmin1, dmin0, deq_nil, Nat.zero_add, ↓turn, rng0, Int.toNat_natCast, forGo_nil0, forGo_cons0, sz0, sz1, sz2, sz3, sz4, sz5, ↓iEnA, pl, pls, py, pys, pl_tZ', py_tZ', pls_ints', pys_ints, PyData.depth, Nat.min_zero, Nat.zero_min, Nat.zero_le, deq_int, and_self, true_and])) rfl ?_ (by simp) fun x' _ => ?_
  · intro pre a post x c e hI
    have ha : a < F := by
      have : a ∈ List.range F := by rw [e]; simp
      exact List.mem_range.mp this
    have hpre : pre.length < F := by
      have := congrArg List.length e
      simp at this; omega
    have key := sFor_fold (inj := fun i => .int ((i : Nat) : Int)) (m := iR1 (aC (vr 1) aN)) (g := gN 5) (b := (sSeq (sAsg (mCall f_parted [] (aC (vr 2) (aC (vr 4) (aC (vr 5) aN)))) (gT 2 (gsC (gN 6) (gsC (gN 7) gsN)))) (sIf (tAnd (mB (m2 (gEq true) (pk 6) (oD (nTup aN)))) (mB (m2 (gEq true) (pk 7) (oD (nTup aN))))) (sDrop (mMt kL fAppend (pk 3) (aC (nTup (aC (vr 4) (aC (vr 5) (aC (vr 6) (aC (vr 7) aN))))) aN))) sNx)))
      (sl := [(some (SV.val (.int F))), (some (SV.val (.int G))), (some (SV.val (tM S))), (some (SV.own (.lst c))), (some (SV.val (.int a))), x.2.1, x.2.2.1, x.2.2.2]) (S := St)
      (st := fun (x : Option SV × Option SV × Option SV) acc => [(some (SV.val (.int F))), (some (SV.val (.int G))), (some (SV.val (tM S))), (some (SV.own (.lst acc))), (some (SV.val (.int a))), x.1, x.2.1, x.2.2]) (sS := fun _ => St)
      (stp := fun acc t => acc ++ oneW S a t) (I := fun pre2 acc => acc.length ≤ 5 * pre.length + pre2.length) (l0 := List.range G) (c := c) (x := x.2)
      (iR1_nat (n := G) (by omega) (by simp only [↓mPure, ↓mBind, ↓vr, ↓pk, ↓cs, ↓oD, ↓m2, ↓m1, ↓mB, ↓mCall, ↓mMeth, ↓mMt, ↓mMt2, ↓mCb, ↓nCb, ↓mIs, ↓mCh, ↓mSl, ↓mRev, ↓mFl, ↓sFl, ↓nFz, ↓nBx, ↓nLst, ↓nTup, ↓aN, ↓aC, ↓aS, ↓avN, ↓avV, ↓avO, ↓sParA, ↓stAV, ↓sNx, ↓sBk, ↓sCt, ↓sNo, ↓sSeq, ↓sRet, ↓sDrop, ↓sIf, ↓sSet, ↓sAsg, ↓sOwn, ↓gN, ↓gsN, ↓gsC, ↓gT, ↓gSb, ↓gFl, stO, obR, cellR, setC, objAt, vw, vwD, lsV, itV, itD, lsOf, Ob.fz, fI, gAdd, gEq, gIn, gIs, gIx, gNeg, gInt, gAbs, gLen, gSum, gAll, gMax2, gMin2, gReprB, gList, gTuple, gSrt, gMM, ↓tAnd, ↓tOr, ↓tNot, ↓vAnd, ↓vOr, ↓vNot, ↓vIf, ↓iV, ↓iR1, ↓iR2, ↓iEnA, ↓iZp, ↓sFor, fAppend, fExtend, fPop, fPopAt, fInsert, fGet2, fSetdef, fFind, fSame, kL, kT, kD, dv, ↓mTRg, ↓nLRg, ↓rg1, ↓rg2, ↓oN, ↓oS, ↓tYs, ↓nDct, List.getElem?_cons_zero, List.getElem?_cons_succ, List.set_cons_zero, List.set_cons_succ, List.length_cons, List.length_nil, Option.map_some, Option.map_none, Option.bind_some, Option.bind_none, List.append_nil, List.nil_append, List.cons_append, Bool.false_eq_true, reduceCtorEq, ↓reduceIte, ↓relF, rel, ↓runB, List.map_cons, List.map_nil, List.replicate, Nat.reduceSub, Nat.reduceAdd, Nat.reduceEqDiff, and_self, true_and, and_true, decide_true, decide_false, Bool.and_true, Bool.true_and, Bool.not_true, Bool.not_false, Nat.reduceLT, Nat.reduceLeDiff, Nat.zero_lt_succ, ↓dropS, wipeS, restS, pls_tZs, iCnt, countP_ints, dep59, dmin1, dmin0, deq_nil, Nat.zero_add, ↓turn, rng0, Int.toNat_natCast, forGo_nil0, forGo_cons0, sz0, sz1, sz2, sz3, sz4, sz5, ↓iEnA, pl, pls, py, pys, pl_tZ', py_tZ', pls_ints', pys_ints, PyData.depth, Nat.min_zero, Nat.zero_min, Nat.zero_le, deq_int, and_self, true_and])) rfl (fun pre2 t post2 x2 c2 e2 hI2 => by
        have ht : t < G := by
          have : t ∈ List.range G := by rw [e2]; simp
          exact List.mem_range.mp this
        have hp2 : pre2.length < G := by
          have := congrArg List.length e2
          simp at this; omega
        refine ⟨by rw [List.length_append, List.length_append]; have := oneW_len S a t; simp; omega, ?_⟩
        exact ⟨((some (SV.val (.int t))), (some (SV.val (tM (Lo a t S)))), (some (SV.val (tM (Mo a t S))))), ask_turn S a t F G c2 x2 St (lt_sz (by omega)) (h a t ha ht)⟩) (by simpa using hI)
    obtain ⟨x', e1, h1⟩ := key
    rw [foldl_app] at e1 h1
    refine ⟨by
      simp only [List.length_append, List.length_range, List.length_cons, List.length_nil] at h1 ⊢
      omega, ⟨(some (SV.val (.int a))), x'.1, x'.2.1, x'.2.2⟩, ?_⟩
    have g : gN 4 (.int (a : Int)) [(some (SV.val (.int F))), (some (SV.val (.int G))), (some (SV.val (tM S))), (some (SV.own (.lst c))), x.1, x.2.1, x.2.2.1, x.2.2.2] St = some ([(some (SV.val (.int F))), (some (SV.val (.int G))), (some (SV.val (tM S))), (some (SV.own (.lst c))), (some (SV.val (.int a))), x.2.1, x.2.2.1, x.2.2.2], St) := by simp only [↓mPure, ↓mBind, ↓vr, ↓pk, ↓cs, ↓oD, ↓m2, ↓m1, ↓mB, ↓mCall, ↓mMeth, ↓mMt, ↓mMt2, ↓mCb, ↓nCb, ↓mIs, ↓mCh, ↓mSl, ↓mRev, ↓mFl, ↓sFl, ↓nFz, ↓nBx, ↓nLst, ↓nTup, ↓aN, ↓aC, ↓aS, ↓avN, ↓avV, ↓avO, ↓sParA, ↓stAV, ↓sNx, ↓sBk, ↓sCt, ↓sNo, ↓sSeq, ↓sRet, ↓sDrop, ↓sIf, ↓sSet, ↓sAsg, ↓sOwn, ↓gN, ↓gsN, ↓gsC, ↓gT, ↓gSb, ↓gFl, stO, obR, cellR, setC, objAt, vw, vwD, lsV, itV, itD, lsOf, Ob.fz, fI, gAdd, gEq, gIn, gIs, gIx, gNeg, gInt, gAbs, gLen, gSum, gAll, gMax2, gMin2, gReprB, gList, gTuple, gSrt, gMM, ↓tAnd, ↓tOr, ↓tNot, ↓vAnd, ↓vOr, ↓vNot, ↓vIf, ↓iV, ↓iR1, ↓iR2, ↓iEnA, ↓iZp, ↓sFor, fAppend, fExtend, fPop, fPopAt, fInsert, fGet2, fSetdef, fFind, fSame, kL, kT, kD, dv, ↓mTRg, ↓nLRg, ↓rg1, ↓rg2, ↓oN, ↓oS, ↓tYs, ↓nDct, List.getElem?_cons_zero, List.getElem?_cons_succ, List.set_cons_zero, List.set_cons_succ, List.length_cons, List.length_nil, Option.map_some, Option.map_none, Option.bind_some, Option.bind_none, List.append_nil, List.nil_append, List.cons_append, Bool.false_eq_true, reduceCtorEq, ↓reduceIte, ↓relF, rel, ↓runB, List.map_cons, List.map_nil, List.replicate, Nat.reduceSub, Nat.reduceAdd, Nat.reduceEqDiff, and_self, true_and, and_true, decide_true, decide_false, Bool.and_true, Bool.true_and, Bool.not_true, Bool.not_false, Nat.reduceLT, Nat.reduceLeDiff, Nat.zero_lt_succ, ↓dropS, wipeS, restS, pls_tZs, iCnt, countP_ints, dep59, dmin1, dmin0, deq_nil, Nat.zero_add, ↓turn, rng0, Int.toNat_natCast, forGo_nil0, forGo_cons0, sz0, sz1, sz2, sz3, sz4, sz5, ↓iEnA, pl, pls, py, pys, pl_tZ', py_tZ', pls_ints', pys_ints, PyData.depth, Nat.min_zero, Nat.zero_min, Nat.zero_le, deq_int, and_self, true_and]
    exact turn_of g e1
  · rw [foldl_app, List.nil_append, ways_eq]
    simp only [↓mPure, ↓mBind, ↓vr, ↓pk, ↓cs, ↓oD, ↓m2, ↓m1, ↓mB, ↓mCall, ↓mMeth, ↓mMt, ↓mMt2, ↓mCb, ↓nCb, ↓mIs, ↓mCh, ↓mSl, ↓mRev, ↓mFl, ↓sFl, ↓nFz, ↓nBx, ↓nLst, ↓nTup, ↓aN, ↓aC, ↓aS, ↓avN, ↓avV, ↓avO, ↓sParA, ↓stAV, ↓sNx, ↓sBk, ↓sCt, ↓sNo, ↓sSeq, ↓sRet, ↓sDrop, ↓sIf, ↓sSet, ↓sAsg, ↓sOwn, ↓gN, ↓gsN, ↓gsC, ↓gT, ↓gSb, ↓gFl, stO, obR, cellR, setC, objAt, vw, vwD, lsV, itV, itD, lsOf, Ob.fz, fI, gAdd, gEq, gIn, gIs, gIx, gNeg, gInt, gAbs, gLen, gSum, gAll, gMax2, gMin2, gReprB, gList, gTuple, gSrt, gMM, ↓tAnd, ↓tOr, ↓tNot, ↓vAnd, ↓vOr, ↓vNot, ↓vIf, ↓iV, ↓iR1, ↓iR2, ↓iEnA, ↓iZp, ↓sFor, fAppend, fExtend, fPop, fPopAt, fInsert, fGet2, fSetdef, fFind, fSame, kL, kT, kD, dv, ↓mTRg, ↓nLRg, ↓rg1, ↓rg2, ↓oN, ↓oS, ↓tYs, ↓nDct, List.getElem?_cons_zero, List.getElem?_cons_succ, List.set_cons_zero, List.set_cons_succ, List.length_cons, List.length_nil, Option.map_some, Option.map_none, Option.bind_some, Option.bind_none, List.append_nil, List.nil_append, List.cons_append, Bool.false_eq_true, reduceCtorEq, ↓reduceIte, ↓relF, rel, ↓runB, List.map_cons, List.map_nil, List.replicate, Nat.reduceSub, Nat.reduceAdd, Nat.reduceEqDiff, and_self, true_and, and_true, decide_true, decide_false, Bool.and_true, Bool.true_and, Bool.not_true, Bool.not_false, Nat.reduceLT, Nat.reduceLeDiff, Nat.zero_lt_succ, ↓dropS, wipeS, restS, pls_tZs, iCnt, countP_ints, dep59, dmin1, dmin0, deq_nil, Nat.zero_add, ↓turn, rng0, Int.toNat_natCast, forGo_nil0, forGo_cons0, sz0, sz1, sz2, sz3, sz4, sz5, ↓iEnA, pl, pls, py, pys, pl_tZ', py_tZ', pls_ints', pys_ints, PyData.depth, Nat.min_zero, Nat.zero_min, Nat.zero_le, deq_int, and_self, true_and]
end K37

namespace K37
open PySem PS
def stp0 (F : Nat) (m : Mg) : List Mg := if m.count 0 < F then [m ++ [0]] else []
def stp1 (G : Nat) (m : Mg) : List Mg := if m.count 1 < G then [m ++ [1]] else []
def stp (F G : Nat) (m : Mg) : List Mg := stp0 F m ++ stp1 G m
def bld (F G : Nat) : Nat → List Mg
  | 0 => [[]]
  | n + 1 => (bld F G n).flatMap (stp F G)
theorem tm_if0 (F G : Nat) (m : Mg) (c : List Mg) (f l : Option SV) (S : Sto) (hc : c.length < 64) (hm : m.length < 64) :
    (sIf (mB (m2 gLt (oD (mMt2 kL kT (fSame false (fFind iCnt)) (fSame true (fFind iCnt)) (pk 5) (aC (cs (.int 0)) aN))) (pk 0))) (sDrop (mMt kL fAppend (pk 4) (aC (nTup (aS (pk 5) (aC (cs (.int 0)) aN))) aN))) sNx) [(some (SV.val (.int F))), (some (SV.val (.int G))), f, l, (some (SV.own (.lst (c.map fun m => tZ m)))), (some (SV.val (tZ m)))] S =
    some (.nx, [(some (SV.val (.int F))), (some (SV.val (.int G))), f, l, (some (SV.own (.lst ((c ++ stp0 F m).map fun m => tZ m)))), (some (SV.val (tZ m)))], S) := by
  have h1 := lt_sz (k := (c.map fun m => tZ m).length) (by simpa using hc)
  have h2 := le_sz (k := (m.map D.int ++ [D.int 0]).length) (by simp; omega)
  unfold stp0
  by_cases h : m.count 0 < F
  · have h' : ((m.count 0 : Nat) : Int) < (F : Int) := by omega
    simp only [↓mPure, ↓mBind, ↓vr, ↓pk, ↓cs, ↓oD, ↓m2, ↓m1, ↓mB, ↓mCall, ↓mMeth, ↓mMt, ↓mMt2, ↓mCb, ↓nCb, ↓mIs, ↓mCh, ↓mSl, ↓mRev, ↓mFl, ↓sFl, ↓nFz, ↓nBx, ↓nLst, ↓nTup, ↓aN, ↓aC, ↓aS, ↓avN, ↓avV, ↓avO, ↓sParA, ↓stAV, ↓sNx, ↓sBk, ↓sCt, ↓sNo, ↓sSeq, ↓sRet, ↓sDrop, ↓sIf, ↓sSet, ↓sAsg, ↓sOwn, ↓gN, ↓gsN, ↓gsC, ↓gT, ↓gSb, ↓gFl, stO, obR, cellR, setC, objAt, vw, vwD, lsV, itV, itD, lsOf, Ob.fz, fI, gAdd, gEq, gIn, gIs, gIx, gNeg, gInt, gAbs, gLen, gSum, gAll, gMax2, gMin2, gReprB, gList, gTuple, gSrt, gMM, ↓tAnd, ↓tOr, ↓tNot, ↓vAnd, ↓vOr, ↓vNot, ↓vIf, ↓iV, ↓iR1, ↓iR2, ↓iEnA, ↓iZp, ↓sFor, fAppend, fExtend, fPop, fPopAt, fInsert, fGet2, fSetdef, fFind, fSame, kL, kT, kD, dv, ↓mTRg, ↓nLRg, ↓rg1, ↓rg2, ↓oN, ↓oS, ↓tYs, ↓nDct, List.getElem?_cons_zero, List.getElem?_cons_succ, List.set_cons_zero, List.set_cons_succ, List.length_cons, List.length_nil, Option.map_some, Option.map_none, Option.bind_some, Option.bind_none, List.append_nil, List.nil_append, List.cons_append, Bool.false_eq_true, reduceCtorEq, ↓reduceIte, ↓relF, rel, ↓runB, List.map_cons, List.map_nil, List.replicate, Nat.reduceSub, Nat.reduceAdd, Nat.reduceEqDiff, and_self, true_and, and_true, decide_true, decide_false, Bool.and_true, Bool.true_and, Bool.not_true, Bool.not_false, Nat.reduceLT, Nat.reduceLeDiff, Nat.zero_lt_succ, ↓dropS, wipeS, restS, pls_tZs, iCnt, countP_ints, dep59, dmin1, dmin0, deq_nil, Nat.zero_add, ↓turn, rng0, Int.toNat_natCast, forGo_nil0, forGo_cons0, sz0, sz1, sz2, sz3, sz4, sz5, ↓iEnA, pl, pls, py, pys, pl_tZ', py_tZ', pls_ints', pys_ints, PyData.depth, Nat.min_zero, Nat.zero_min, Nat.zero_le, deq_int, and_self, true_and, h, h', h1, h2]
    simp
  · have h' : ¬ ((m.count 0 : Nat) : Int) < (F : Int) := by omega
    simp only [↓mPure, ↓mBind, ↓vr, ↓pk, ↓cs, ↓oD, ↓m2, ↓m1, ↓mB, ↓mCall, ↓mMeth, ↓mMt, ↓mMt2, ↓mCb, ↓nCb, ↓mIs, ↓mCh, ↓mSl, ↓mRev, ↓mFl, ↓sFl, ↓nFz, ↓nBx, ↓nLst, ↓nTup, ↓aN, ↓aC, ↓aS, ↓avN, ↓avV, ↓avO, ↓sParA, ↓stAV, ↓sNx, ↓sBk, ↓sCt, ↓sNo, ↓sSeq, ↓sRet, ↓sDrop, ↓sIf, ↓sSet, ↓sAsg, ↓sOwn, ↓gN, ↓gsN, ↓gsC, ↓gT, ↓gSb, ↓gFl, stO, obR, cellR, setC, objAt, vw, vwD, lsV, itV, itD, lsOf, Ob.fz, fI, gAdd, gEq, gIn, gIs, gIx, gNeg, gInt, gAbs, gLen, gSum, gAll, gMax2, gMin2, gReprB, gList, gTuple, gSrt, gMM, ↓tAnd, ↓tOr, ↓tNot, ↓vAnd, ↓vOr, ↓vNot, ↓vIf, ↓iV, ↓iR1, ↓iR2, ↓iEnA, ↓iZp, ↓sFor, fAppend, fExtend, fPop, fPopAt, fInsert, fGet2, fSetdef, fFind, fSame, kL, kT, kD, dv, ↓mTRg, ↓nLRg, ↓rg1, ↓rg2, ↓oN, ↓oS, ↓tYs, ↓nDct, List.getElem?_cons_zero, List.getElem?_cons_succ, List.set_cons_zero, List.set_cons_succ, List.length_cons, List.length_nil, Option.map_some, Option.map_none, Option.bind_some, Option.bind_none, List.append_nil, List.nil_append, List.cons_append, Bool.false_eq_true, reduceCtorEq, ↓reduceIte, ↓relF, rel, ↓runB, List.map_cons, List.map_nil, List.replicate, Nat.reduceSub, Nat.reduceAdd, Nat.reduceEqDiff, and_self, true_and, and_true, decide_true, decide_false, Bool.and_true, Bool.true_and, Bool.not_true, Bool.not_false, Nat.reduceLT, Nat.reduceLeDiff, Nat.zero_lt_succ, ↓dropS, wipeS, restS, pls_tZs, iCnt, countP_ints, dep59, dmin1, dmin0, deq_nil, Nat.zero_add, ↓turn, rng0, Int.toNat_natCast, forGo_nil0, forGo_cons0, sz0, sz1, sz2, sz3, sz4, sz5, ↓iEnA, pl, pls, py, pys, pl_tZ', py_tZ', pls_ints', pys_ints, PyData.depth, Nat.min_zero, Nat.zero_min, Nat.zero_le, deq_int, and_self, true_and, h, h']
theorem tm_if1 (F G : Nat) (m : Mg) (c : List Mg) (f l : Option SV) (S : Sto) (hc : c.length < 64) (hm : m.length < 64) :
    (sIf (mB (m2 gLt (oD (mMt2 kL kT (fSame false (fFind iCnt)) (fSame true (fFind iCnt)) (pk 5) (aC (cs (.int 1)) aN))) (pk 1))) (sDrop (mMt kL fAppend (pk 4) (aC (nTup (aS (pk 5) (aC (cs (.int 1)) aN))) aN))) sNx) [(some (SV.val (.int F))), (some (SV.val (.int G))), f, l, (some (SV.own (.lst (c.map fun m => tZ m)))), (some (SV.val (tZ m)))] S =
    some (.nx, [(some (SV.val (.int F))), (some (SV.val (.int G))), f, l, (some (SV.own (.lst ((c ++ stp1 G m).map fun m => tZ m)))), (some (SV.val (tZ m)))], S) := by
  have h1 := lt_sz (k := (c.map fun m => tZ m).length) (by simpa using hc)
  have h2 := le_sz (k := (m.map D.int ++ [D.int 1]).length) (by simp; omega)
  unfold stp1
  by_cases h : m.count 1 < G
  · have h' : ((m.count 1 : Nat) : Int) < (G : Int) := by omega
    simp only [↓mPure, ↓mBind, ↓vr, ↓pk, ↓cs, ↓oD, ↓m2, ↓m1, ↓mB, ↓mCall, ↓mMeth, ↓mMt, ↓mMt2, ↓mCb, ↓nCb, ↓mIs, ↓mCh, ↓mSl, ↓mRev, ↓mFl, ↓sFl, ↓nFz, ↓nBx, ↓nLst, ↓nTup, ↓aN, ↓aC, ↓aS, ↓avN, ↓avV, ↓avO, ↓sParA, ↓stAV, ↓sNx, ↓sBk, ↓sCt, ↓sNo, ↓sSeq, ↓sRet, ↓sDrop, ↓sIf, ↓sSet, ↓sAsg, ↓sOwn, ↓gN, ↓gsN, ↓gsC, ↓gT, ↓gSb, ↓gFl, stO, obR, cellR, setC, objAt, vw, vwD, lsV, itV, itD, lsOf, Ob.fz, fI, gAdd, gEq, gIn, gIs, gIx, gNeg, gInt, gAbs, gLen, gSum, gAll, gMax2, gMin2, gReprB, gList, gTuple, gSrt, gMM, ↓tAnd, ↓tOr, ↓tNot, ↓vAnd, ↓vOr, ↓vNot, ↓vIf, ↓iV, ↓iR1, ↓iR2, ↓iEnA, ↓iZp, ↓sFor, fAppend, fExtend, fPop, fPopAt, fInsert, fGet2, fSetdef, fFind, fSame, kL, kT, kD, dv, ↓mTRg, ↓nLRg, ↓rg1, ↓rg2, ↓oN, ↓oS, ↓tYs, ↓nDct, List.getElem?_cons_zero, List.getElem?_cons_succ, List.set_cons_zero, List.set_cons_succ, List.length_cons, List.length_nil, Option.map_some, Option.map_none, Option.bind_some, Option.bind_none, List.append_nil, List.nil_append, List.cons_append, Bool.false_eq_true, reduceCtorEq, ↓reduceIte, ↓relF, rel, ↓runB, List.map_cons, List.map_nil, List.replicate, Nat.reduceSub, Nat.reduceAdd, Nat.reduceEqDiff, and_self, true_and, and_true, decide_true, decide_false, Bool.and_true, Bool.true_and, Bool.not_true, Bool.not_false, Nat.reduceLT, Nat.reduceLeDiff, Nat.zero_lt_succ, ↓dropS, wipeS, restS, pls_tZs, iCnt, countP_ints, dep59, dmin1, dmin0, deq_nil, Nat.zero_add, ↓turn, rng0, Int.toNat_natCast, forGo_nil0, forGo_cons0, sz0, sz1, sz2, sz3, sz4, sz5, ↓iEnA, pl, pls, py, pys, pl_tZ', py_tZ', pls_ints', pys_ints, PyData.depth, Nat.min_zero, Nat.zero_min, Nat.zero_le, deq_int, and_self, true_and, h, h', h1, h2]
    simp
  · have h' : ¬ ((m.count 1 : Nat) : Int) < (G : Int) := by omega
    simp only [↓mPure, ↓mBind, ↓vr, ↓pk, ↓cs, ↓oD, ↓m2, ↓m1, ↓mB, ↓mCall, ↓mMeth, ↓mMt, ↓mMt2, ↓mCb, ↓nCb, ↓mIs, ↓mCh, ↓mSl, ↓mRev, ↓mFl, ↓sFl, ↓nFz, ↓nBx, ↓nLst, ↓nTup, ↓aN, ↓aC, ↓aS, ↓avN, ↓avV, ↓avO, ↓sParA, ↓stAV, ↓sNx, ↓sBk, ↓sCt, ↓sNo, ↓sSeq, ↓sRet, ↓sDrop, ↓sIf, ↓sSet, ↓sAsg, ↓sOwn, ↓gN, ↓gsN, ↓gsC, ↓gT, ↓gSb, ↓gFl, stO, obR, cellR, setC, objAt, vw, vwD, lsV, itV, itD, lsOf, Ob.fz, fI, gAdd, gEq, gIn, gIs, gIx, gNeg, gInt, gAbs, gLen, gSum, gAll, gMax2, gMin2, gReprB, gList, gTuple, gSrt, gMM, ↓tAnd, ↓tOr, ↓tNot, ↓vAnd, ↓vOr, ↓vNot, ↓vIf, ↓iV, ↓iR1, ↓iR2, ↓iEnA, ↓iZp, ↓sFor, fAppend, fExtend, fPop, fPopAt, fInsert, fGet2, fSetdef, fFind, fSame, kL, kT, kD, dv, ↓mTRg, ↓nLRg, ↓rg1, ↓rg2, ↓oN, ↓oS, ↓tYs, ↓nDct, List.getElem?_cons_zero, List.getElem?_cons_succ, List.set_cons_zero, List.set_cons_succ, List.length_cons, List.length_nil, Option.map_some, Option.map_none, Option.bind_some, Option.bind_none, List.append_nil, List.nil_append, List.cons_append, Bool.false_eq_true, reduceCtorEq, ↓reduceIte, ↓relF, rel, ↓runB, List.map_cons, List.map_nil, List.replicate, Nat.reduceSub, Nat.reduceAdd, Nat.reduceEqDiff, and_self, true_and, and_true, decide_true, decide_false, Bool.and_true, Bool.true_and, Bool.not_true, Bool.not_false, Nat.reduceLT, Nat.reduceLeDiff, Nat.zero_lt_succ, ↓dropS, wipeS, restS, pls_tZs, iCnt, countP_ints, dep59, dmin1, dmin0, deq_nil, Nat.zero_add, ↓turn, rng0, Int.toNat_natCast, forGo_nil0, forGo_cons0, sz0, sz1, sz2, sz3, sz4, sz5, ↓iEnA, pl, pls, py, pys, pl_tZ', py_tZ', pls_ints', pys_ints, PyData.depth, Nat.min_zero, Nat.zero_min, Nat.zero_le, deq_int, and_self, true_and, h, h']
theorem stp_len (F G : Nat) (m : Mg) : (stp F G m).length ≤ 2 := by
  unfold stp stp0 stp1
  rw [List.length_append]
  split <;> split <;> simp
theorem flat_len {α : Type} (f : α → List Mg) (h : ∀ a, (f a).length ≤ 2) : ∀ l : List α, (l.flatMap f).length ≤ 2 * l.length
  | [] => by simp
  | x :: l => by
    rw [List.flatMap_cons, List.length_append, List.length_cons]
    have := h x; have := flat_len f h l; omega
theorem bld_len (F G : Nat) : ∀ n, (bld F G n).length ≤ 2 ^ n
  | 0 => by simp [bld]
  | n + 1 => by
    have := flat_len (stp F G) (stp_len F G) (bld F G n)
    have := bld_len F G n
    rw [bld, Nat.pow_succ]; omega
theorem bld_el (F G : Nat) : ∀ n, ∀ m ∈ bld F G n, m.length = n
  | 0, m, h => by simp [bld] at h; simp [h]
  | n + 1, m, h => by
    obtain ⟨m', h1, h2⟩ := List.mem_flatMap.mp h
    have := bld_el F G n m' h1
    unfold stp stp0 stp1 at h2
    rcases List.mem_append.mp h2 with h2 | h2 <;> (split at h2 <;> simp at h2 <;> simp [h2, this])
def lsS (b : Bool) (l : List Mg) : Option SV := if b = true then (some (SV.own (.lst (l.map fun m => tZ m)))) else (some (SV.val (.lst (l.map fun m => tZ m))))
theorem tm_in (F G : Nat) (fs : List Mg) (l z : Option SV) (S : Sto) (hl : fs.length ≤ 32) (he : ∀ m ∈ fs, m.length < 64) (b : Bool) :
    ∃ z', sFor (iV (vr 2)) (gN 5) (sSeq (sIf (mB (m2 gLt (oD (mMt2 kL kT (fSame false (fFind iCnt)) (fSame true (fFind iCnt)) (pk 5) (aC (cs (.int 0)) aN))) (pk 0))) (sDrop (mMt kL fAppend (pk 4) (aC (nTup (aS (pk 5) (aC (cs (.int 0)) aN))) aN))) sNx) (sIf (mB (m2 gLt (oD (mMt2 kL kT (fSame false (fFind iCnt)) (fSame true (fFind iCnt)) (pk 5) (aC (cs (.int 1)) aN))) (pk 1))) (sDrop (mMt kL fAppend (pk 4) (aC (nTup (aS (pk 5) (aC (cs (.int 1)) aN))) aN))) sNx)) [(some (SV.val (.int F))), (some (SV.val (.int G))), lsS b fs, l, (some (SV.own (.lst []))), z] S =
      some (.nx, [(some (SV.val (.int F))), (some (SV.val (.int G))), (some (SV.val (.lst (fs.map fun m => tZ m)))), l, (some (SV.own (.lst ((fs.flatMap (stp F G)).map fun m => tZ m)))), z'], S) := by
  obtain ⟨z', e, _⟩ := sFor_fold (inj := fun m => tZ m) (m := iV (vr 2)) (g := gN 5) (b := (sSeq (sIf (mB (m2 gLt (oD (mMt2 kL kT (fSame false (fFind iCnt)) (fSame true (fFind iCnt)) (pk 5) (aC (cs (.int 0)) aN))) (pk 0))) (sDrop (mMt kL fAppend (pk 4) (aC (nTup (aS (pk 5) (aC (cs (.int 0)) aN))) aN))) sNx) (sIf (mB (m2 gLt (oD (mMt2 kL kT (fSame false (fFind iCnt)) (fSame true (fFind iCnt)) (pk 5) (aC (cs (.int 1)) aN))) (pk 1))) (sDrop (mMt kL fAppend (pk 4) (aC (nTup (aS (pk 5) (aC (cs (.int 1)) aN))) aN))) sNx))) (sl := [(some (SV.val (.int F))), (some (SV.val (.int G))), lsS b fs, l, (some (SV.own (.lst []))), z]) (S := S)
    (st := fun (z : Option SV) (c : List Mg) => [(some (SV.val (.int F))), (some (SV.val (.int G))), (some (SV.val (.lst (fs.map fun m => tZ m)))), l, (some (SV.own (.lst (c.map fun m => tZ m)))), z]) (sS := fun _ => S) (stp := fun c m => c ++ stp F G m) (I := fun pre c => c.length ≤ 2 * pre.length) (l0 := fs) (c := []) (x := z)
    (by cases b <;> simp only [↓mPure, ↓mBind, ↓vr, ↓pk, ↓cs, ↓oD, ↓m2, ↓m1, ↓mB, ↓mCall, ↓mMeth, ↓mMt, ↓mMt2, ↓mCb, ↓nCb, ↓mIs, ↓mCh, ↓mSl, ↓mRev, ↓mFl, ↓sFl, ↓nFz, ↓nBx, ↓nLst, ↓nTup, ↓aN, ↓aC, ↓aS, ↓avN, ↓avV, ↓avO, ↓sParA, ↓stAV, ↓sNx, ↓sBk, ↓sCt, ↓sNo, ↓sSeq, ↓sRet, ↓sDrop, ↓sIf, ↓sSet, ↓sAsg, ↓sOwn, ↓gN, ↓gsN, ↓gsC, ↓gT, ↓gSb, ↓gFl, stO, obR, cellR, setC, objAt, vw, vwD, lsV, itV, itD, lsOf, Ob.fz, fI, gAdd, gEq, gIn, gIs, gIx, gNeg, gInt, gAbs, gLen, gSum, gAll, gMax2, gMin2, gReprB, gList, gTuple, gSrt, gMM, ↓tAnd, ↓tOr, ↓tNot, ↓vAnd, ↓vOr, ↓vNot, ↓vIf, ↓iV, ↓iR1, ↓iR2, ↓iEnA, ↓iZp, ↓sFor, fAppend, fExtend, fPop, fPopAt, fInsert, fGet2, fSetdef, fFind, fSame, kL, kT, kD, dv, ↓mTRg, ↓nLRg, ↓rg1, ↓rg2, ↓oN, ↓oS, ↓tYs, ↓nDct, List.getElem?_cons_zero, List.getElem?_cons_succ, List.set_cons_zero, List.set_cons_succ, List.length_cons, List.length_nil, Option.map_some, Option.map_none, Option.bind_some, Option.bind_none, List.append_nil, List.nil_append, List.cons_append, Bool.false_eq_true, reduceCtorEq, ↓reduceIte, ↓relF, rel, ↓runB, List.map_cons, List.map_nil, List.replicate, Nat.reduceSub, Nat.reduceAdd, Nat.reduceEqDiff, and_self, true_and, and_true, decide_true, decide_false, Bool.and_true, Bool.true_and, Bool.not_true, Bool.not_false, Nat.reduceLT, Nat.reduceLeDiff, Nat.zero_lt_succ, ↓dropS, wipeS, restS, pls_tZs, iCnt, countP_ints, dep59, dmin1, dmin0, deq_nil, Nat.zero_add, ↓turn, rng0, Int.toNat_natCast, forGo_nil0, forGo_cons0, sz0, sz1, sz2, sz3, sz4, sz5, ↓iEnA, pl, pls, py, pys, pl_tZ', py_tZ', pls_ints', pys_ints, PyData.depth, Nat.min_zero, Nat.zero_min, Nat.zero_le, deq_int, and_self, true_and, lsS, lsOf, Ob.fz, Bool.false_eq_true]) rfl (fun pre m post x c e hI => by
      have hp : pre.length < 32 := by
        have := congrArg List.length e
        simp at this; omega
      have hm := he m (by rw [e]; simp)
      refine ⟨by rw [List.length_append, List.length_append]; have := stp_len F G m; simp; omega, (some (SV.val (tZ m))), ?_⟩
      refine turn_of (sl1 := [(some (SV.val (.int F))), (some (SV.val (.int G))), (some (SV.val (.lst (fs.map fun m => tZ m)))), l, (some (SV.own (.lst (c.map fun m => tZ m)))), (some (SV.val (tZ m)))]) (S1 := S) (by simp only [↓mPure, ↓mBind, ↓vr, ↓pk, ↓cs, ↓oD, ↓m2, ↓m1, ↓mB, ↓mCall, ↓mMeth, ↓mMt, ↓mMt2, ↓mCb, ↓nCb, ↓mIs, ↓mCh, ↓mSl, ↓mRev, ↓mFl, ↓sFl, ↓nFz, ↓nBx, ↓nLst, ↓nTup, ↓aN, ↓aC, ↓aS, ↓avN, ↓avV, ↓avO, ↓sParA, ↓stAV, ↓sNx, ↓sBk, ↓sCt, ↓sNo, ↓sSeq, ↓sRet, ↓sDrop, ↓sIf, ↓sSet, ↓sAsg, ↓sOwn, ↓gN, ↓gsN, ↓gsC, ↓gT, ↓gSb, ↓gFl, stO, obR, cellR, setC, objAt, vw, vwD, lsV, itV, itD, lsOf, Ob.fz, fI, gAdd, gEq, gIn, gIs, gIx, gNeg, gInt, gAbs, gLen, gSum, gAll, gMax2, gMin2, gReprB, gList, gTuple, gSrt, gMM, ↓tAnd, ↓tOr, ↓tNot, ↓vAnd, ↓vOr, ↓vNot, ↓vIf, ↓iV, ↓iR1, ↓iR2, ↓iEnA, ↓iZp, ↓sFor, fAppend, fExtend, fPop, fPopAt, fInsert, fGet2, fSetdef, fFind, fSame, kL, kT, kD, dv, ↓mTRg, ↓nLRg, ↓rg1, ↓rg2, ↓oN, ↓oS, ↓tYs, ↓nDct, List.getElem?_cons_zero, List.getElem?_cons_succ, List.set_cons_zero, List.set_cons_succ, List.length_cons, List.length_nil, Option.map_some, Option.map_none, Option.bind_some, Option.bind_none, List.append_nil, List.nil_append, List.cons_append, Bool.false_eq_true, reduceCtorEq, ↓reduceIte, ↓relF, rel, ↓runB, List.map_cons, List.map_nil, List.replicate, Nat.reduceSub, Nat.reduceAdd, Nat.reduceEqDiff, and_self, true_and, and_true, decide_true, decide_false, Bool.and_true, Bool.true_and, Bool.not_true, Bool.not_false, Nat.reduceLT, Nat.reduceLeDiff, Nat.zero_lt_succ, ↓dropS, wipeS, restS, pls_tZs, iCnt, countP_ints, dep59, dmin1, dmin0, deq_nil, Nat.zero_add, ↓turn, rng0, Int.toNat_natCast, forGo_nil0, forGo_cons0, sz0, sz1, sz2, sz3, sz4, sz5, ↓iEnA, pl, pls, py, pys, pl_tZ', py_tZ', pls_ints', pys_ints, PyData.depth, Nat.min_zero, Nat.zero_min, Nat.zero_le, deq_int, and_self, true_and]) ?_
      rw [seq_nx (tm_if0 F G m c _ _ S (by omega) hm), tm_if1 F G m (c ++ stp0 F m) _ _ S (by
        rw [List.length_append]
        have : (stp0 F m).length ≤ 1 := by unfold stp0; split <;> simp
        omega) hm]
      unfold stp
      rw [List.append_assoc]) (by simp)
  refine ⟨z', e.trans ?_⟩
  rw [foldl_app, List.nil_append]
theorem tm_fold (F G : Nat) : ∀ (l : List Nat) (k : Nat), l.foldl (fun fs (_ : Nat) => fs.flatMap (stp F G)) (bld F G k) = bld F G (k + l.length)
  | [], k => rfl
  | _ :: l, k => by
    rw [List.foldl_cons, show (bld F G k).flatMap (stp F G) = bld F G (k + 1) from rfl, tm_fold F G l (k + 1), List.length_cons]
    congr 1; omega
theorem tm_out (F G : Nat) (S : Sto) (h : F + G ≤ 6) (k : MS) (R : Option (D × Sto)) (hk : ∀ b x y z, dropS (k [(some (SV.val (.int F))), (some (SV.val (.int G))), lsS b (bld F G (F + G)), x, y, z] S) = R) :
    dropS (sSeq (sOwn 2 (nLst (aC (nTup aN) aN))) (sSeq (sFor (iR1 (aC (m2 gAdd (pk 0) (pk 1)) aN)) (gN 3) (sSeq (sOwn 4 (nLst aN)) (sSeq (sFor (iV (vr 2)) (gN 5) (sSeq (sIf (mB (m2 gLt (oD (mMt2 kL kT (fSame false (fFind iCnt)) (fSame true (fFind iCnt)) (pk 5) (aC (cs (.int 0)) aN))) (pk 0))) (sDrop (mMt kL fAppend (pk 4) (aC (nTup (aS (pk 5) (aC (cs (.int 0)) aN))) aN))) sNx) (sIf (mB (m2 gLt (oD (mMt2 kL kT (fSame false (fFind iCnt)) (fSame true (fFind iCnt)) (pk 5) (aC (cs (.int 1)) aN))) (pk 1))) (sDrop (mMt kL fAppend (pk 4) (aC (nTup (aS (pk 5) (aC (cs (.int 1)) aN))) aN))) sNx))) (sSet 2 (vr 4))))) k) [(some (SV.val (.int F))), (some (SV.val (.int G))), none, none, none, none] S) = R := by
  refine seq_then (sl1 := [(some (SV.val (.int F))), (some (SV.val (.int G))), lsS true (bld F G 0), none, none, none]) (S1 := S) (by simp only [↓mPure, ↓mBind, ↓vr, ↓pk, ↓cs, ↓oD, ↓m2, ↓m1, ↓mB, ↓mCall, ↓mMeth, ↓mMt, ↓mMt2, ↓mCb, ↓nCb, ↓mIs, ↓mCh, ↓mSl, ↓mRev, ↓mFl, ↓sFl, ↓nFz, ↓nBx, ↓nLst, ↓nTup, ↓aN, ↓aC, ↓aS, ↓avN, ↓avV, ↓avO, ↓sParA, ↓stAV, ↓sNx, ↓sBk, ↓sCt, ↓sNo, ↓sSeq, ↓sRet, ↓sDrop, ↓sIf, ↓sSet, ↓sAsg, ↓sOwn, ↓gN, ↓gsN, ↓gsC, ↓gT, ↓gSb, ↓gFl, stO, obR, cellR, setC, objAt, vw, vwD, lsV, itV, itD, lsOf, Ob.fz, fI, gAdd, gEq, gIn, gIs, gIx, gNeg, gInt, gAbs, gLen, gSum, gAll, gMax2, gMin2, gReprB, gList, gTuple, gSrt, gMM, ↓tAnd, ↓tOr, ↓tNot, ↓vAnd, ↓vOr, ↓vNot, ↓vIf, ↓iV, ↓iR1, ↓iR2, ↓iEnA, ↓iZp, ↓sFor, fAppend, fExtend, fPop, fPopAt, fInsert, fGet2, fSetdef, fFind, fSame, kL, kT, kD, dv, ↓mTRg, ↓nLRg, ↓rg1, ↓rg2, ↓oN, ↓oS, ↓tYs, ↓nDct, List.getElem?_cons_zero, List.getElem?_cons_succ, List.set_cons_zero, List.set_cons_succ, List.length_cons, List.length_nil, Option.map_some, Option.map_none, Option.bind_some, Option.bind_none, List.append_nil, List.nil_append, List.cons_append, Bool.false_eq_true, reduceCtorEq, ↓reduceIte, ↓relF, rel, ↓runB, List.map_cons, List.map_nil, List.replicate, Nat.reduceSub, Nat.reduceAdd, Nat.reduceEqDiff, and_self, true_and, and_true, decide_true, decide_false, Bool.and_true, Bool.true_and, Bool.not_true, Bool.not_false, Nat.reduceLT, Nat.reduceLeDiff, Nat.zero_lt_succ, ↓dropS, wipeS, restS, pls_tZs, iCnt, countP_ints, dep59, dmin1, dmin0, deq_nil, Nat.zero_add, ↓turn, rng0, Int.toNat_natCast, forGo_nil0, forGo_cons0, sz0, sz1, sz2, sz3, sz4, sz5, ↓iEnA, pl, pls, py, pys, pl_tZ', py_tZ', pls_ints', pys_ints, PyData.depth, Nat.min_zero, Nat.zero_min, Nat.zero_le, deq_int, and_self, true_and, lsS, bld, List.map_cons, List.map_nil]; rfl) ?_
  refine sFor_then (inj := fun i => .int ((i : Nat) : Int)) (st := fun (x : Bool × Option SV × Option SV × Option SV) (fs : List Mg) => [(some (SV.val (.int F))), (some (SV.val (.int G))), lsS x.1 fs, x.2.1, x.2.2.1, x.2.2.2]) (sS := fun _ => S)
    (stp := fun fs _ => fs.flatMap (stp F G)) (I := fun pre fs => fs = bld F G pre.length) (l0 := List.range (F + G)) (c := bld F G 0) (x := (true, none, none, none))
    (iR1_nat (n := F + G) (by omega) (by simp only [↓mPure, ↓mBind, ↓vr, ↓pk, ↓cs, ↓oD, ↓m2, ↓m1, ↓mB, ↓mCall, ↓mMeth, ↓mMt, ↓mMt2, ↓mCb, ↓nCb, ↓mIs, ↓mCh, ↓mSl, ↓mRev, ↓mFl, ↓sFl, ↓nFz, ↓nBx, ↓nLst, ↓nTup, ↓aN, ↓aC, ↓aS, ↓avN, ↓avV, ↓avO, ↓sParA, ↓stAV, ↓sNx, ↓sBk, ↓sCt, ↓sNo, ↓sSeq, ↓sRet, ↓sDrop, ↓sIf, ↓sSet, ↓sAsg, ↓sOwn, ↓gN, ↓gsN, ↓gsC, ↓gT, ↓gSb, ↓gFl, stO, obR, cellR, setC, objAt, vw, vwD, lsV, itV, itD, lsOf, Ob.fz, fI, gAdd, gEq, gIn, gIs, gIx, gNeg, gInt, gAbs, gLen, gSum, gAll, gMax2, gMin2, gReprB, gList, gTuple, gSrt, gMM, ↓tAnd, ↓tOr, ↓tNot, ↓vAnd, ↓vOr, ↓vNot, ↓vIf, ↓iV, ↓iR1, ↓iR2, ↓iEnA, ↓iZp, ↓sFor, fAppend, fExtend, fPop, fPopAt, fInsert, fGet2, fSetdef, fFind, fSame, kL, kT, kD, dv, ↓mTRg, ↓nLRg, ↓rg1, ↓rg2, ↓oN, ↓oS, ↓tYs, ↓nDct, List.getElem?_cons_zero, List.getElem?_cons_succ, List.set_cons_zero, List.set_cons_succ, List.length_cons, List.length_nil, Option.map_some, Option.map_none, Option.bind_some, Option.bind_none, List.append_nil, List.nil_append, List.cons_append, Bool.false_eq_true, reduceCtorEq, ↓reduceIte, ↓relF, rel, ↓runB, List.map_cons, List.map_nil, List.replicate, Nat.reduceSub, Nat.reduceAdd, Nat.reduceEqDiff, and_self, true_and, and_true, decide_true, decide_false, Bool.and_true, Bool.true_and, Bool.not_true, Bool.not_false, Nat.reduceLT, Nat.reduceLeDiff, Nat.zero_lt_succ, ↓dropS, wipeS, restS, pls_tZs, iCnt, countP_ints, dep59, dmin1, dmin0, deq_nil, Nat.zero_add, ↓turn, rng0, Int.toNat_natCast, forGo_nil0, forGo_cons0, sz0, sz1, sz2, sz3, sz4, sz5, ↓iEnA, pl, pls, py, pys, pl_tZ', py_tZ', pls_ints', pys_ints, PyData.depth, Nat.min_zero, Nat.zero_min, Nat.zero_le, deq_int, and_self, true_and, Int.natCast_add])) rfl ?_ rfl fun x' _ => ?_
  · intro pre i post x c e hI
    have hp : pre.length < F + G := by
      have := congrArg List.length e
      simp at this; omega
    subst hI
    refine ⟨by rw [List.length_append]; rfl, ?_⟩
    have hb : (bld F G pre.length).length ≤ 32 := Nat.le_trans (bld_len F G _) (Nat.le_trans (Nat.pow_le_pow_right (by decide) (show pre.length ≤ 5 by omega)) (by decide))
    obtain ⟨z', e1⟩ := tm_in F G (bld F G pre.length) ((some (SV.val (.int i)))) x.2.2.2 S hb (fun m hm => by have := bld_el F G _ m hm; omega) x.1
    refine ⟨(false, (some (SV.val (.int i))), (some (SV.val (.lst (((bld F G pre.length).flatMap (stp F G)).map fun m => tZ m)))), z'), ?_⟩
    refine turn_of (sl1 := [(some (SV.val (.int F))), (some (SV.val (.int G))), lsS x.1 (bld F G pre.length), (some (SV.val (.int i))), x.2.2.1, x.2.2.2]) (S1 := S) (by simp only [↓mPure, ↓mBind, ↓vr, ↓pk, ↓cs, ↓oD, ↓m2, ↓m1, ↓mB, ↓mCall, ↓mMeth, ↓mMt, ↓mMt2, ↓mCb, ↓nCb, ↓mIs, ↓mCh, ↓mSl, ↓mRev, ↓mFl, ↓sFl, ↓nFz, ↓nBx, ↓nLst, ↓nTup, ↓aN, ↓aC, ↓aS, ↓avN, ↓avV, ↓avO, ↓sParA, ↓stAV, ↓sNx, ↓sBk, ↓sCt, ↓sNo, ↓sSeq, ↓sRet, ↓sDrop, ↓sIf, ↓sSet, ↓sAsg, ↓sOwn, ↓gN, ↓gsN, ↓gsC, ↓gT, ↓gSb, ↓gFl, stO, obR, cellR, setC, objAt, vw, vwD, lsV, itV, itD, lsOf, Ob.fz, fI, gAdd, gEq, gIn, gIs, gIx, gNeg, gInt, gAbs, gLen, gSum, gAll, gMax2, gMin2, gReprB, gList, gTuple, gSrt, gMM, ↓tAnd, ↓tOr, ↓tNot, ↓vAnd, ↓vOr, ↓vNot, ↓vIf, ↓iV, ↓iR1, ↓iR2, ↓iEnA, ↓iZp, ↓sFor, fAppend, fExtend, fPop, fPopAt, fInsert, fGet2, fSetdef, fFind, fSame, kL, kT, kD, dv, ↓mTRg, ↓nLRg, ↓rg1, ↓rg2, ↓oN, ↓oS, ↓tYs, ↓nDct, List.getElem?_cons_zero, List.getElem?_cons_succ, List.set_cons_zero, List.set_cons_succ, List.length_cons, List.length_nil, Option.map_some, Option.map_none, Option.bind_some, Option.bind_none, List.append_nil, List.nil_append, List.cons_append, Bool.false_eq_true, reduceCtorEq, ↓reduceIte, ↓relF, rel, ↓runB, List.map_cons, List.map_nil, List.replicate, Nat.reduceSub, Nat.reduceAdd, Nat.reduceEqDiff, and_self, true_and, and_true, decide_true, decide_false, Bool.and_true, Bool.true_and, Bool.not_true, Bool.not_false, Nat.reduceLT, Nat.reduceLeDiff, Nat.zero_lt_succ, ↓dropS, wipeS, restS, pls_tZs, iCnt, countP_ints, dep59, dmin1, dmin0, deq_nil, Nat.zero_add, ↓turn, rng0, Int.toNat_natCast, forGo_nil0, forGo_cons0, sz0, sz1, sz2, sz3, sz4, sz5, ↓iEnA, pl, pls, py, pys, pl_tZ', py_tZ', pls_ints', pys_ints, PyData.depth, Nat.min_zero, Nat.zero_min, Nat.zero_le, deq_int, and_self, true_and]) ?_
    rw [seq_nx (sl1 := [(some (SV.val (.int F))), (some (SV.val (.int G))), lsS x.1 (bld F G pre.length), (some (SV.val (.int i))), (some (SV.own (.lst []))), x.2.2.2]) (S1 := S) (by simp only [↓mPure, ↓mBind, ↓vr, ↓pk, ↓cs, ↓oD, ↓m2, ↓m1, ↓mB, ↓mCall, ↓mMeth, ↓mMt, ↓mMt2, ↓mCb, ↓nCb, ↓mIs, ↓mCh, ↓mSl, ↓mRev, ↓mFl, ↓sFl, ↓nFz, ↓nBx, ↓nLst, ↓nTup, ↓aN, ↓aC, ↓aS, ↓avN, ↓avV, ↓avO, ↓sParA, ↓stAV, ↓sNx, ↓sBk, ↓sCt, ↓sNo, ↓sSeq, ↓sRet, ↓sDrop, ↓sIf, ↓sSet, ↓sAsg, ↓sOwn, ↓gN, ↓gsN, ↓gsC, ↓gT, ↓gSb, ↓gFl, stO, obR, cellR, setC, objAt, vw, vwD, lsV, itV, itD, lsOf, Ob.fz, fI, gAdd, gEq, gIn, gIs, gIx, gNeg, gInt, gAbs, gLen, gSum, gAll, gMax2, gMin2, gReprB, gList, gTuple, gSrt, gMM, ↓tAnd, ↓tOr, ↓tNot, ↓vAnd, ↓vOr, ↓vNot, ↓vIf, ↓iV, ↓iR1, ↓iR2, ↓iEnA, ↓iZp, ↓sFor, fAppend, fExtend, fPop, fPopAt, fInsert, fGet2, fSetdef, fFind, fSame, kL, kT, kD, dv, ↓mTRg, ↓nLRg, ↓rg1, ↓rg2, ↓oN, ↓oS, ↓tYs, ↓nDct, List.getElem?_cons_zero, List.getElem?_cons_succ, List.set_cons_zero, List.set_cons_succ, List.length_cons, List.length_nil, Option.map_some, Option.map_none, Option.bind_some, Option.bind_none, List.append_nil, List.nil_append, List.cons_append, Bool.false_eq_true, reduceCtorEq, ↓reduceIte, ↓relF, rel, ↓runB, List.map_cons, List.map_nil, List.replicate, Nat.reduceSub, Nat.reduceAdd, Nat.reduceEqDiff, and_self, true_and, and_true, decide_true, decide_false, Bool.and_true, Bool.true_and, Bool.not_true, Bool.not_false, Nat.reduceLT, Nat.reduceLeDiff, Nat.zero_lt_succ, ↓dropS, wipeS, restS, pls_tZs, iCnt, countP_ints, dep59, dmin1, dmin0, deq_nil, Nat.zero_add, ↓turn, rng0, Int.toNat_natCast, forGo_nil0, forGo_cons0, sz0, sz1, sz2, sz3, sz4, sz5, ↓iEnA, pl, pls, py, pys, pl_tZ', py_tZ', pls_ints', pys_ints, PyData.depth, Nat.min_zero, Nat.zero_min, Nat.zero_le, deq_int, and_self, true_and]), seq_nx e1]
    simp only [↓mPure, ↓mBind, ↓vr, ↓pk, ↓cs, ↓oD, ↓m2, ↓m1, ↓mB, ↓mCall, ↓mMeth, ↓mMt, ↓mMt2, ↓mCb, ↓nCb, ↓mIs, ↓mCh, ↓mSl, ↓mRev, ↓mFl, ↓sFl, ↓nFz, ↓nBx, ↓nLst, ↓nTup, ↓aN, ↓aC, ↓aS, ↓avN, ↓avV, ↓avO, ↓sParA, ↓stAV, ↓sNx, ↓sBk, ↓sCt, ↓sNo, ↓sSeq, ↓sRet, ↓sDrop, ↓sIf, ↓sSet, ↓sAsg, ↓sOwn, ↓gN, ↓gsN, ↓gsC, ↓gT, ↓gSb, ↓gFl, stO, obR, cellR, setC, objAt, vw, vwD, lsV, itV, itD, lsOf, Ob.fz, fI, gAdd, gEq, gIn, gIs, gIx, gNeg, gInt, gAbs, gLen, gSum, gAll, gMax2, gMin2, gReprB, gList, gTuple, gSrt, gMM, ↓tAnd, ↓tOr, ↓tNot, ↓vAnd, ↓vOr, ↓vNot, ↓vIf, ↓iV, ↓iR1, ↓iR2, ↓iEnA, ↓iZp, ↓sFor, fAppend, fExtend, fPop, fPopAt, fInsert, fGet2, fSetdef, fFind, fSame, kL, kT, kD, dv, ↓mTRg, ↓nLRg, ↓rg1, ↓rg2, ↓oN, ↓oS, ↓tYs, ↓nDct, List.getElem?_cons_zero, List.getElem?_cons_succ, List.set_cons_zero, List.set_cons_succ, List.length_cons, List.length_nil, Option.map_some, Option.map_none, Option.bind_some, Option.bind_none, List.append_nil, List.nil_append, List.cons_append, Bool.false_eq_true, reduceCtorEq, ↓reduceIte, ↓relF, rel, ↓runB, List.map_cons, List.map_nil, List.replicate, Nat.reduceSub, Nat.reduceAdd, Nat.reduceEqDiff, and_self, true_and, and_true, decide_true, decide_false, Bool.and_true, Bool.true_and, Bool.not_true, Bool.not_false, Nat.reduceLT, Nat.reduceLeDiff, Nat.zero_lt_succ, ↓dropS, wipeS, restS, pls_tZs, iCnt, countP_ints, dep59, dmin1, dmin0, deq_nil, Nat.zero_add, ↓turn, rng0, Int.toNat_natCast, forGo_nil0, forGo_cons0, sz0, sz1, sz2, sz3, sz4, sz5, ↓iEnA, pl, pls, py, pys, pl_tZ', py_tZ', pls_ints', pys_ints, PyData.depth, Nat.min_zero, Nat.zero_min, Nat.zero_le, deq_int, and_self, true_and, lsS, Ob.fz]
  · rw [tm_fold, List.length_range, Nat.zero_add]
    exact hk x'.1 _ _ _
end K37

namespace K37
open PySem PS
def srtM (L : List Mg) : List Mg := L.mergeSort fun a b => PySem.W.dataLe false py (tZ a) (tZ b)
theorem dSrt_tZ (L : List Mg) : dSrt (L.map fun m => tZ m) = (srtM L).map fun m => tZ m := by
  unfold dSrt srtM
  exact (List.map_mergeSort (f := fun m => tZ m) (s := PySem.W.dataLe false py) (r := fun a b => PySem.W.dataLe false py (tZ a) (tZ b)) (l := L) (fun a _ b _ => rfl)).symm
theorem alikeAll_ints : ∀ l m : List Int, PySem.W.alikeAll (l.map .int) (m.map .int) = true
  | [], _ => by simp [PySem.W.alikeAll]
  | _ :: _, [] => by simp [PySem.W.alikeAll]
  | x :: l, y :: m => by simp [PySem.W.alikeAll, PySem.W.alike, alikeAll_ints l m]
theorem pys_tZs (L : List Mg) : pys (L.map fun m => tZ m) = L.map fun m => PyData.tuple (m.map .int) := by
  rw [pys_map]; exact List.map_congr_left fun m _ => py_tZ m
theorem alk_tZs (L : List Mg) : alk (L.map fun m => tZ m) = true := by
  unfold alk
  rw [pls_tZs, pys_tZs, Bool.true_and, List.all_eq_true]
  intro x hx
  rw [List.all_eq_true]
  intro y hy
  obtain ⟨a, _, rfl⟩ := List.mem_map.mp hx
  obtain ⟨b, _, rfl⟩ := List.mem_map.mp hy
  simp [PySem.W.alike, alikeAll_ints]
theorem srtOk_tZs (L : List Mg) (h : ∀ m ∈ L, m ≠ []) : srtOk (pys (L.map fun m => tZ m)) = true := by
  unfold srtOk
  rw [pys_tZs, Bool.or_eq_true]
  refine .inl (List.all_eq_true.mpr fun x hx => ?_)
  obtain ⟨a, ha, rfl⟩ := List.mem_map.mp hx
  match a, h a ha with
  | y :: a, _ => rfl
theorem depth_tZs : ∀ L : List Mg, PyData.depthAll (pys (L.map fun m => tZ m)) ≤ 2
  | [] => by simp [pys, PyData.depthAll]
  | m :: L => by
    have h1 := depth_tZs L
    have h2 := depth_ints m
    rw [List.map_cons, pys, PyData.depthAll, py_tZ, PyData.depth]
    omega
theorem srt_ok (L : List Mg) (hl : L.length ≤ 64) (h : ∀ m ∈ L, m ≠ []) : ((L.map fun m => tZ m).length ≤ sizeLine ∧ alk (L.map fun m => tZ m) = true ∧ srtOk (pys (L.map fun m => tZ m)) = true ∧ PyData.depthAll (pys (L.map fun m => tZ m)) ≤ 60) :=
  ⟨le_sz (by rw [List.length_map]; exact hl), alk_tZs L, srtOk_tZs L h, Nat.le_trans (depth_tZs L) (by decide)⟩
theorem gSrt_lsS {b : Bool} {L : List Mg} {sl : Sl} {S : Sto} {r : Rf} (hl : L.length ≤ 64) (h : ∀ m ∈ L, m ≠ []) (hv : vw sl S r = some (.lst (L.map fun m => tZ m))) : gSrt [r] sl S = some (.lst ((srtM L).map fun m => tZ m)) := by
  simp only [gSrt, itD, hv]
  rw [if_pos (srt_ok L hl h), dSrt_tZ]
theorem bld_ne (F G : Nat) {n : Nat} (h : 0 < n) : ∀ m ∈ bld F G n, m ≠ [] := fun m hm e => by
  have := bld_el F G n m hm
  rw [e] at this
  simp at this; omega
abbrev every (F G : Nat) : List Mg := srtM (bld F G (F + G))
theorem e_told_merges (F G : Nat) (S : Sto) (h : F + G ≤ 6) (h1 : 0 < F + G) : f_told_merges [.int F, .int G] S = some (tM (every F G), S) := by
  refine f_by [(some (SV.val (.int F))), (some (SV.val (.int G))), none, none, none, none] rfl rfl ?_ rfl
  unfold b_told_merges
  refine tm_out F G S h _ _ fun b x y z => ?_
  have hl : (bld F G (F + G)).length ≤ 64 := Nat.le_trans (bld_len F G _) (Nat.le_trans (Nat.pow_le_pow_right (by decide) h) (by decide))
  have q : nCb gSrt (aC (pk 2) aN) [(some (SV.val (.int F))), (some (SV.val (.int G))), lsS b (bld F G (F + G)), x, y, z] S = some (.lst ((every F G).map fun m => tZ m), [(some (SV.val (.int F))), (some (SV.val (.int G))), lsS b (bld F G (F + G)), x, y, z], S) := by
    have g := gSrt_lsS (b := b) (L := bld F G (F + G)) (sl := [(some (SV.val (.int F))), (some (SV.val (.int G))), lsS b (bld F G (F + G)), x, y, z]) (S := S) (r := .sl 2) hl (bld_ne F G h1) (by cases b <;> rfl)
    have e : aC (pk 2) aN [(some (SV.val (.int F))), (some (SV.val (.int G))), lsS b (bld F G (F + G)), x, y, z] S = some ([.sl 2], [(some (SV.val (.int F))), (some (SV.val (.int G))), lsS b (bld F G (F + G)), x, y, z], S) := by cases b <;> rfl
    unfold nCb mBind
    rw [e]
    show (gSrt [.sl 2] _ S).map _ = _
    rw [g]
    rfl
  simp only [↓mPure, ↓mBind, ↓vr, ↓pk, ↓cs, ↓oD, ↓m2, ↓m1, ↓mB, ↓mCall, ↓mMeth, ↓mMt, ↓mMt2, ↓mCb, ↓nCb, ↓mIs, ↓mCh, ↓mSl, ↓mRev, ↓mFl, ↓sFl, ↓nFz, ↓nBx, ↓nLst, ↓nTup, ↓aN, ↓aC, ↓aS, ↓avN, ↓avV, ↓avO, ↓sParA, ↓stAV, ↓sNx, ↓sBk, ↓sCt, ↓sNo, ↓sSeq, ↓sRet, ↓sDrop, ↓sIf, ↓sSet, ↓sAsg, ↓sOwn, ↓gN, ↓gsN, ↓gsC, ↓gT, ↓gSb, ↓gFl, stO, obR, cellR, setC, objAt, vw, vwD, lsV, itV, itD, lsOf, Ob.fz, fI, gAdd, gEq, gIn, gIs, gIx, gNeg, gInt, gAbs, gLen, gSum, gAll, gMax2, gMin2, gReprB, gList, gTuple, gSrt, gMM, ↓tAnd, ↓tOr, ↓tNot, ↓vAnd, ↓vOr, ↓vNot, ↓vIf, ↓iV, ↓iR1, ↓iR2, ↓iEnA, ↓iZp, ↓sFor, fAppend, fExtend, fPop, fPopAt, fInsert, fGet2, fSetdef, fFind, fSame, kL, kT, kD, dv, ↓mTRg, ↓nLRg, ↓rg1, ↓rg2, ↓oN, ↓oS, ↓tYs, ↓nDct, List.getElem?_cons_zero, List.getElem?_cons_succ, List.set_cons_zero, List.set_cons_succ, List.length_cons, List.length_nil, Option.map_some, Option.map_none, Option.bind_some, Option.bind_none, List.append_nil, List.nil_append, List.cons_append, Bool.false_eq_true, reduceCtorEq, ↓reduceIte, ↓relF, rel, ↓runB, List.map_cons, List.map_nil, List.replicate, Nat.reduceSub, Nat.reduceAdd, Nat.reduceEqDiff, and_self, true_and, and_true, decide_true, decide_false, Bool.and_true, Bool.true_and, Bool.not_true, Bool.not_false, Nat.reduceLT, Nat.reduceLeDiff, Nat.zero_lt_succ, ↓dropS, wipeS, restS, pls_tZs, iCnt, countP_ints, dep59, dmin1, dmin0, deq_nil, Nat.zero_add, ↓turn, rng0, Int.toNat_natCast, forGo_nil0, forGo_cons0, sz0, sz1, sz2, sz3, sz4, sz5, ↓iEnA, pl, pls, py, pys, pl_tZ', py_tZ', pls_ints', pys_ints, PyData.depth, Nat.min_zero, Nat.zero_min, Nat.zero_le, deq_int, and_self, true_and, ↓q]
theorem e_check_both (F G : Nat) (S : Sto) (hF : F ≤ 5) (hG : G ≤ 5) (h : F + G ≤ 6) : f_check_both [.int F, .int G] S = some (.non, S) := by
  have e1 := e_check_lengths F G S ⟨⟨by omega, by omega⟩, by omega, by omega⟩
  have e2 : ¬ ((F : Int) + (G : Int) > 8) := by omega
  exact f_by [(some (SV.val (.int F))), (some (SV.val (.int G)))] rfl rfl (by simp only [↓mPure, ↓mBind, ↓vr, ↓pk, ↓cs, ↓oD, ↓m2, ↓m1, ↓mB, ↓mCall, ↓mMeth, ↓mMt, ↓mMt2, ↓mCb, ↓nCb, ↓mIs, ↓mCh, ↓mSl, ↓mRev, ↓mFl, ↓sFl, ↓nFz, ↓nBx, ↓nLst, ↓nTup, ↓aN, ↓aC, ↓aS, ↓avN, ↓avV, ↓avO, ↓sParA, ↓stAV, ↓sNx, ↓sBk, ↓sCt, ↓sNo, ↓sSeq, ↓sRet, ↓sDrop, ↓sIf, ↓sSet, ↓sAsg, ↓sOwn, ↓gN, ↓gsN, ↓gsC, ↓gT, ↓gSb, ↓gFl, stO, obR, cellR, setC, objAt, vw, vwD, lsV, itV, itD, lsOf, Ob.fz, fI, gAdd, gEq, gIn, gIs, gIx, gNeg, gInt, gAbs, gLen, gSum, gAll, gMax2, gMin2, gReprB, gList, gTuple, gSrt, gMM, ↓tAnd, ↓tOr, ↓tNot, ↓vAnd, ↓vOr, ↓vNot, ↓vIf, ↓iV, ↓iR1, ↓iR2, ↓iEnA, ↓iZp, ↓sFor, fAppend, fExtend, fPop, fPopAt, fInsert, fGet2, fSetdef, fFind, fSame, kL, kT, kD, dv, ↓mTRg, ↓nLRg, ↓rg1, ↓rg2, ↓oN, ↓oS, ↓tYs, ↓nDct, List.getElem?_cons_zero, List.getElem?_cons_succ, List.set_cons_zero, List.set_cons_succ, List.length_cons, List.length_nil, Option.map_some, Option.map_none, Option.bind_some, Option.bind_none, List.append_nil, List.nil_append, List.cons_append, Bool.false_eq_true, reduceCtorEq, ↓reduceIte, ↓relF, rel, ↓runB, List.map_cons, List.map_nil, List.replicate, Nat.reduceSub, Nat.reduceAdd, Nat.reduceEqDiff, and_self, true_and, and_true, decide_true, decide_false, Bool.and_true, Bool.true_and, Bool.not_true, Bool.not_false, Nat.reduceLT, Nat.reduceLeDiff, Nat.zero_lt_succ, ↓dropS, wipeS, restS, pls_tZs, iCnt, countP_ints, dep59, dmin1, dmin0, deq_nil, Nat.zero_add, ↓turn, rng0, Int.toNat_natCast, forGo_nil0, forGo_cons0, sz0, sz1, sz2, sz3, sz4, sz5, ↓iEnA, pl, pls, py, pys, pl_tZ', py_tZ', pls_ints', pys_ints, PyData.depth, Nat.min_zero, Nat.zero_min, Nat.zero_le, deq_int, and_self, true_and, ↓b_check_both, e1, e2]) rfl
end K37

namespace K37
open PySem PS
theorem e_merges' (a b : Int) (S : Sto) (d : D) (e1 : f_check_lengths [.int a, .int b] S = some (.non, S)) (e2 : f_told_merges [.int a, .int b] S = some (d, S)) : f_merges [.int a, .int b] S = some (d, S) :=
  f_by [(some (SV.val (.int a))), (some (SV.val (.int b)))] rfl rfl (by simp only [↓mPure, ↓mBind, ↓vr, ↓pk, ↓cs, ↓oD, ↓m2, ↓m1, ↓mB, ↓mCall, ↓mMeth, ↓mMt, ↓mMt2, ↓mCb, ↓nCb, ↓mIs, ↓mCh, ↓mSl, ↓mRev, ↓mFl, ↓sFl, ↓nFz, ↓nBx, ↓nLst, ↓nTup, ↓aN, ↓aC, ↓aS, ↓avN, ↓avV, ↓avO, ↓sParA, ↓stAV, ↓sNx, ↓sBk, ↓sCt, ↓sNo, ↓sSeq, ↓sRet, ↓sDrop, ↓sIf, ↓sSet, ↓sAsg, ↓sOwn, ↓gN, ↓gsN, ↓gsC, ↓gT, ↓gSb, ↓gFl, stO, obR, cellR, setC, objAt, vw, vwD, lsV, itV, itD, lsOf, Ob.fz, fI, gAdd, gEq, gIn, gIs, gIx, gNeg, gInt, gAbs, gLen, gSum, gAll, gMax2, gMin2, gReprB, gList, gTuple, gSrt, gMM, ↓tAnd, ↓tOr, ↓tNot, ↓vAnd, ↓vOr, ↓vNot, ↓vIf, ↓iV, ↓iR1, ↓iR2, ↓iEnA, ↓iZp, ↓sFor, fAppend, fExtend, fPop, fPopAt, fInsert, fGet2, fSetdef, fFind, fSame, kL, kT, kD, dv, ↓mTRg, ↓nLRg, ↓rg1, ↓rg2, ↓oN, ↓oS, ↓tYs, ↓nDct, List.getElem?_cons_zero, List.getElem?_cons_succ, List.set_cons_zero, List.set_cons_succ, List.length_cons, List.length_nil, Option.map_some, Option.map_none, Option.bind_some, Option.bind_none, List.append_nil, List.nil_append, List.cons_append, Bool.false_eq_true, reduceCtorEq, ↓reduceIte, ↓relF, rel, ↓runB, List.map_cons, List.map_nil, List.replicate, Nat.reduceSub, Nat.reduceAdd, Nat.reduceEqDiff, and_self, true_and, and_true, decide_true, decide_false, Bool.and_true, Bool.true_and, Bool.not_true, Bool.not_false, Nat.reduceLT, Nat.reduceLeDiff, Nat.zero_lt_succ, ↓dropS, wipeS, restS, pls_tZs, iCnt, countP_ints, dep59, dmin1, dmin0, deq_nil, Nat.zero_add, ↓turn, rng0, Int.toNat_natCast, forGo_nil0, forGo_cons0, sz0, sz1, sz2, sz3, sz4, sz5, ↓iEnA, pl, pls, py, pys, pl_tZ', py_tZ', pls_ints', pys_ints, PyData.depth, Nat.min_zero, Nat.zero_min, Nat.zero_le, deq_int, and_self, true_and, ↓b_merges, e1, e2]) rfl
theorem e_merges (F G : Nat) (S : Sto) (hF : F ≤ 5) (hG : G ≤ 5) (h : F + G ≤ 6) (h1 : 0 < F + G) : f_merges [.int F, .int G] S = some (tM (every F G), S) :=
  e_merges' F G S _ (e_check_lengths F G S ⟨⟨by omega, by omega⟩, by omega, by omega⟩) (e_told_merges F G S h h1)
theorem bls_true (m : List Int) : blsOf (m.map fun _ => D.bl true) = some (m.map fun _ => true) := by
  induction m with
  | nil => rfl
  | cons x m ih => rw [List.map_cons, blsOf, ih]; rfl
theorem all_true (m : List Int) : (m.map fun _ => true).all id = true := by simp
theorem e_is_merge_of (a b : Int) (m : Mg) (S : Sto) (hm : m.length ≤ sizeLine) (h : ∀ x ∈ m, x = 0 ∨ x = 1) : f_is_merge_of [.int a, .int b, tZ m] S = some (.bl (decide ((m.count 0 : Nat) = a) && decide ((m.count 1 : Nat) = b)), S) := by
  have q : nLc (iV (vr 2)) (gN 3) tYs (vAnd (mCall f_is_integer [] (aC (vr 3) aN)) (mCh gLe gLe (oD (cs (.int 0))) (pk 3) (oD (cs (.int 1))))) [3] [(some (SV.val (.int a))), (some (SV.val (.int b))), (some (SV.val (tZ m))), none] S = some (.lst (m.map fun _ => D.bl true), [(some (SV.val (.int a))), (some (SV.val (.int b))), (some (SV.val (tZ m))), none], S) :=
    nLc_a (inj := D.int) (sl2 := [(some (SV.val (.int a))), (some (SV.val (.int b))), (some (SV.val (tZ m))), none]) (fun x => [(some (SV.val (.int a))), (some (SV.val (.int b))), (some (SV.val (tZ m))), (some (SV.val (.int x)))]) (fun _ => .bl true) m
      (by simp only [↓mPure, ↓mBind, ↓vr, ↓pk, ↓cs, ↓oD, ↓m2, ↓m1, ↓mB, ↓mCall, ↓mMeth, ↓mMt, ↓mMt2, ↓mCb, ↓nCb, ↓mIs, ↓mCh, ↓mSl, ↓mRev, ↓mFl, ↓sFl, ↓nFz, ↓nBx, ↓nLst, ↓nTup, ↓aN, ↓aC, ↓aS, ↓avN, ↓avV, ↓avO, ↓sParA, ↓stAV, ↓sNx, ↓sBk, ↓sCt, ↓sNo, ↓sSeq, ↓sRet, ↓sDrop, ↓sIf, ↓sSet, ↓sAsg, ↓sOwn, ↓gN, ↓gsN, ↓gsC, ↓gT, ↓gSb, ↓gFl, stO, obR, cellR, setC, objAt, vw, vwD, lsV, itV, itD, lsOf, Ob.fz, fI, gAdd, gEq, gIn, gIs, gIx, gNeg, gInt, gAbs, gLen, gSum, gAll, gMax2, gMin2, gReprB, gList, gTuple, gSrt, gMM, ↓tAnd, ↓tOr, ↓tNot, ↓vAnd, ↓vOr, ↓vNot, ↓vIf, ↓iV, ↓iR1, ↓iR2, ↓iEnA, ↓iZp, ↓sFor, fAppend, fExtend, fPop, fPopAt, fInsert, fGet2, fSetdef, fFind, fSame, kL, kT, kD, dv, ↓mTRg, ↓nLRg, ↓rg1, ↓rg2, ↓oN, ↓oS, ↓tYs, ↓nDct, List.getElem?_cons_zero, List.getElem?_cons_succ, List.set_cons_zero, List.set_cons_succ, List.length_cons, List.length_nil, Option.map_some, Option.map_none, Option.bind_some, Option.bind_none, List.append_nil, List.nil_append, List.cons_append, Bool.false_eq_true, reduceCtorEq, ↓reduceIte, ↓relF, rel, ↓runB, List.map_cons, List.map_nil, List.replicate, Nat.reduceSub, Nat.reduceAdd, Nat.reduceEqDiff, and_self, true_and, and_true, decide_true, decide_false, Bool.and_true, Bool.true_and, Bool.not_true, Bool.not_false, Nat.reduceLT, Nat.reduceLeDiff, Nat.zero_lt_succ, ↓dropS, wipeS, restS, pls_tZs, iCnt, countP_ints, dep59, dmin1, dmin0, deq_nil, Nat.zero_add, ↓turn, rng0, Int.toNat_natCast, forGo_nil0, forGo_cons0, sz0, sz1, sz2, sz3, sz4, sz5, ↓iEnA, pl, pls, py, pys, pl_tZ', py_tZ', pls_ints', pys_ints, PyData.depth, Nat.min_zero, Nat.zero_min, Nat.zero_le, deq_int, and_self, true_and]) rfl rfl rfl hm (fun x _ => by simp only [↓mPure, ↓mBind, ↓vr, ↓pk, ↓cs, ↓oD, ↓m2, ↓m1, ↓mB, ↓mCall, ↓mMeth, ↓mMt, ↓mMt2, ↓mCb, ↓nCb, ↓mIs, ↓mCh, ↓mSl, ↓mRev, ↓mFl, ↓sFl, ↓nFz, ↓nBx, ↓nLst, ↓nTup, ↓aN, ↓aC, ↓aS, ↓avN, ↓avV, ↓avO, ↓sParA, ↓stAV, ↓sNx, ↓sBk, ↓sCt, ↓sNo, ↓sSeq, ↓sRet, ↓sDrop, ↓sIf, ↓sSet, ↓sAsg, ↓sOwn, ↓gN, ↓gsN, ↓gsC, ↓gT, ↓gSb, ↓gFl, stO, obR, cellR, setC, objAt, vw, vwD, lsV, itV, itD, lsOf, Ob.fz, fI, gAdd, gEq, gIn, gIs, gIx, gNeg, gInt, gAbs, gLen, gSum, gAll, gMax2, gMin2, gReprB, gList, gTuple, gSrt, gMM, ↓tAnd, ↓tOr, ↓tNot, ↓vAnd, ↓vOr, ↓vNot, ↓vIf, ↓iV, ↓iR1, ↓iR2, ↓iEnA, ↓iZp, ↓sFor, fAppend, fExtend, fPop, fPopAt, fInsert, fGet2, fSetdef, fFind, fSame, kL, kT, kD, dv, ↓mTRg, ↓nLRg, ↓rg1, ↓rg2, ↓oN, ↓oS, ↓tYs, ↓nDct, List.getElem?_cons_zero, List.getElem?_cons_succ, List.set_cons_zero, List.set_cons_succ, List.length_cons, List.length_nil, Option.map_some, Option.map_none, Option.bind_some, Option.bind_none, List.append_nil, List.nil_append, List.cons_append, Bool.false_eq_true, reduceCtorEq, ↓reduceIte, ↓relF, rel, ↓runB, List.map_cons, List.map_nil, List.replicate, Nat.reduceSub, Nat.reduceAdd, Nat.reduceEqDiff, and_self, true_and, and_true, decide_true, decide_false, Bool.and_true, Bool.true_and, Bool.not_true, Bool.not_false, Nat.reduceLT, Nat.reduceLeDiff, Nat.zero_lt_succ, ↓dropS, wipeS, restS, pls_tZs, iCnt, countP_ints, dep59, dmin1, dmin0, deq_nil, Nat.zero_add, ↓turn, rng0, Int.toNat_natCast, forGo_nil0, forGo_cons0, sz0, sz1, sz2, sz3, sz4, sz5, ↓iEnA, pl, pls, py, pys, pl_tZ', py_tZ', pls_ints', pys_ints, PyData.depth, Nat.min_zero, Nat.zero_min, Nat.zero_le, deq_int, and_self, true_and]) (fun x hx => by
        have h1 : (0 : Int) ≤ x := by rcases h x hx with e | e <;> omega
        have h2 : x ≤ 1 := by rcases h x hx with e | e <;> omega
        simp only [↓mPure, ↓mBind, ↓vr, ↓pk, ↓cs, ↓oD, ↓m2, ↓m1, ↓mB, ↓mCall, ↓mMeth, ↓mMt, ↓mMt2, ↓mCb, ↓nCb, ↓mIs, ↓mCh, ↓mSl, ↓mRev, ↓mFl, ↓sFl, ↓nFz, ↓nBx, ↓nLst, ↓nTup, ↓aN, ↓aC, ↓aS, ↓avN, ↓avV, ↓avO, ↓sParA, ↓stAV, ↓sNx, ↓sBk, ↓sCt, ↓sNo, ↓sSeq, ↓sRet, ↓sDrop, ↓sIf, ↓sSet, ↓sAsg, ↓sOwn, ↓gN, ↓gsN, ↓gsC, ↓gT, ↓gSb, ↓gFl, stO, obR, cellR, setC, objAt, vw, vwD, lsV, itV, itD, lsOf, Ob.fz, fI, gAdd, gEq, gIn, gIs, gIx, gNeg, gInt, gAbs, gLen, gSum, gAll, gMax2, gMin2, gReprB, gList, gTuple, gSrt, gMM, ↓tAnd, ↓tOr, ↓tNot, ↓vAnd, ↓vOr, ↓vNot, ↓vIf, ↓iV, ↓iR1, ↓iR2, ↓iEnA, ↓iZp, ↓sFor, fAppend, fExtend, fPop, fPopAt, fInsert, fGet2, fSetdef, fFind, fSame, kL, kT, kD, dv, ↓mTRg, ↓nLRg, ↓rg1, ↓rg2, ↓oN, ↓oS, ↓tYs, ↓nDct, List.getElem?_cons_zero, List.getElem?_cons_succ, List.set_cons_zero, List.set_cons_succ, List.length_cons, List.length_nil, Option.map_some, Option.map_none, Option.bind_some, Option.bind_none, List.append_nil, List.nil_append, List.cons_append, Bool.false_eq_true, reduceCtorEq, ↓reduceIte, ↓relF, rel, ↓runB, List.map_cons, List.map_nil, List.replicate, Nat.reduceSub, Nat.reduceAdd, Nat.reduceEqDiff, and_self, true_and, and_true, decide_true, decide_false, Bool.and_true, Bool.true_and, Bool.not_true, Bool.not_false, Nat.reduceLT, Nat.reduceLeDiff, Nat.zero_lt_succ, ↓dropS, wipeS, restS, pls_tZs, iCnt, countP_ints, dep59, dmin1, dmin0, deq_nil, Nat.zero_add, ↓turn, rng0, Int.toNat_natCast, forGo_nil0, forGo_cons0, sz0, sz1, sz2, sz3, sz4, sz5, ↓iEnA, pl, pls, py, pys, pl_tZ', py_tZ', pls_ints', pys_ints, PyData.depth, Nat.min_zero, Nat.zero_min, Nat.zero_le, deq_int, and_self, true_and, e_is_integer, h1, h2]) (fun x _ => rfl)
  refine f_by [(some (SV.val (.int a))), (some (SV.val (.int b))), (some (SV.val (tZ m))), none] rfl rfl ?_ rfl
  by_cases c0 : ((m.count 0 : Nat) : Int) = a <;> simp only [↓mPure, ↓mBind, ↓vr, ↓pk, ↓cs, ↓oD, ↓m2, ↓m1, ↓mB, ↓mCall, ↓mMeth, ↓mMt, ↓mMt2, ↓mCb, ↓nCb, ↓mIs, ↓mCh, ↓mSl, ↓mRev, ↓mFl, ↓sFl, ↓nFz, ↓nBx, ↓nLst, ↓nTup, ↓aN, ↓aC, ↓aS, ↓avN, ↓avV, ↓avO, ↓sParA, ↓stAV, ↓sNx, ↓sBk, ↓sCt, ↓sNo, ↓sSeq, ↓sRet, ↓sDrop, ↓sIf, ↓sSet, ↓sAsg, ↓sOwn, ↓gN, ↓gsN, ↓gsC, ↓gT, ↓gSb, ↓gFl, stO, obR, cellR, setC, objAt, vw, vwD, lsV, itV, itD, lsOf, Ob.fz, fI, gAdd, gEq, gIn, gIs, gIx, gNeg, gInt, gAbs, gLen, gSum, gAll, gMax2, gMin2, gReprB, gList, gTuple, gSrt, gMM, ↓tAnd, ↓tOr, ↓tNot, ↓vAnd, ↓vOr, ↓vNot, ↓vIf, ↓iV, ↓iR1, ↓iR2, ↓iEnA, ↓iZp, ↓sFor, fAppend, fExtend, fPop, fPopAt, fInsert, fGet2, fSetdef, fFind, fSame, kL, kT, kD, dv, ↓mTRg, ↓nLRg, ↓rg1, ↓rg2, ↓oN, ↓oS, ↓tYs, ↓nDct, List.getElem?_cons_zero, List.getElem?_cons_succ, List.set_cons_zero, List.set_cons_succ, List.length_cons, List.length_nil, Option.map_some, Option.map_none, Option.bind_some, Option.bind_none, List.append_nil, List.nil_append, List.cons_append, Bool.false_eq_true, reduceCtorEq, ↓reduceIte, ↓relF, rel, ↓runB, List.map_cons, List.map_nil, List.replicate, Nat.reduceSub, Nat.reduceAdd, Nat.reduceEqDiff, and_self, true_and, and_true, decide_true, decide_false, Bool.and_true, Bool.true_and, Bool.not_true, Bool.not_false, Nat.reduceLT, Nat.reduceLeDiff, Nat.zero_lt_succ, ↓dropS, wipeS, restS, pls_tZs, iCnt, countP_ints, dep59, dmin1, dmin0, deq_nil, Nat.zero_add, ↓turn, rng0, Int.toNat_natCast, forGo_nil0, forGo_cons0, sz0, sz1, sz2, sz3, sz4, sz5, ↓iEnA, pl, pls, py, pys, pl_tZ', py_tZ', pls_ints', pys_ints, PyData.depth, Nat.min_zero, Nat.zero_min, Nat.zero_le, deq_int, and_self, true_and, ↓b_is_merge_of, ↓q, bls_true, all_true, PyData.isTuple, c0, Bool.false_and]
end K37

namespace K37
open PySem PS
/-- a plan as a value -/
def dP : Pl → D
  | .lf m => .tup [.str "merged", tZ m]
  | .nd a t l r => .tup [.str "compare", .int a, .int t, dP l, dP r]
theorem pl_dP : ∀ p, pl (dP p) = true
  | .lf m => by simp only [dP, pl, pls, pls_ints, Bool.and_true]
  | .nd a t l r => by simp only [dP, pl, pls, pl_dP l, pl_dP r, Bool.and_true]
def okB (F G : Nat) : Pl → List Mg → Bool
  | .lf m, S => decide (S.length = 1) && (decide (m.count 0 = F) && decide (m.count 1 = G)) && decide (S = [m])
  | .nd a t l r, S => decide (a < F) && decide (t < G) && wok S (a, t) && okB F G l (Lo a t S) && okB F G r (Mo a t S)
theorem okB_ok {F G : Nat} : ∀ {p : Pl} {S : List Mg}, (∀ m ∈ S, IsM F G m) → (okB F G p S = true ↔ Ok F G p S)
  | .lf m, S, h => by
    show _ ↔ S = [m]
    simp only [okB, Bool.and_eq_true, decide_eq_true_eq]
    constructor
    · exact fun q => q.2
    · intro e
      have := h m (by rw [e]; simp)
      exact ⟨⟨by rw [e]; rfl, this.2⟩, e⟩
  | .nd a t l r, S, h => by
    simp only [okB, Ok, Bool.and_eq_true, decide_eq_true_eq, wok, Bool.not_eq_true', List.isEmpty_eq_false_iff]
    rw [okB_ok (p := l) (S := Lo a t S) fun m hm => h m (List.mem_filter.mp hm).1, okB_ok (p := r) (S := Mo a t S) fun m hm => h m (List.mem_filter.mp hm).1]
    constructor
    · rintro ⟨⟨⟨⟨h1, h2⟩, h3, h4⟩, h5⟩, h6⟩; exact ⟨h1, h2, h3, h4, h5, h6⟩
    · rintro ⟨h1, h2, h3, h4, h5, h6⟩; exact ⟨⟨⟨⟨h1, h2⟩, h3, h4⟩, h5⟩, h6⟩
end K37

open PySem PS
local macro_rules
  | `(tactic| simp? [$xs,*]) => `(tactic| simp only [$xs,*, ↓w_pure, ↓w_cs, ↓w_vr, ↓w_pk, ↓w_oD, ↓w_m2, ↓w_m1, ↓w_mB, ↓w_tAnd, ↓w_tOr, ↓w_tNot, ↓w_vAnd, ↓w_vOr, ↓w_vNot, ↓w_vIf, ↓w_aN, ↓w_aC, ↓w_aS, ↓w_nFz, ↓w_nBx, ↓w_nLst, ↓w_nTup, ↓w_nDct, ↓w_mCb, ↓w_nCb, ↓w_call, ↓w_meth, ↓w_mkK, ↓w_mIs, ↓w_mCh, ↓w_oN, ↓w_oS, ↓w_mSl, ↓w_mRev, ↓w_mFl, ↓w_mMt, ↓w_mMt2, ↓w_rg1, ↓w_rg2, ↓w_nLRg, ↓w_mTRg, ↓w_iV, ↓w_iEnA, ↓w_iZp, ↓w_iR1, ↓w_iR2, ↓w_nx, ↓w_bk, ↓w_ct, ↓w_no, ↓w_seq, ↓w_ret, ↓w_drop, ↓w_if, ↓w_asg, ↓w_own, ↓w_par, ↓w_avN, ↓w_avV, ↓w_avO, ↓w_sFl, ↓w_gN, ↓w_gsN, ↓w_gsC, ↓w_gT_t, ↓w_gT_p, ↓w_gSb, ↓w_gFl, ↓w_for, ↓w_lc, ↓w_tYs, ↓w_some, ↓w_none, ↓w_ite, ↓w_map, ↓w_bnd, ↓wq_nx, ↓wq_bk, ↓wq_ct, ↓wq_rt, ↓wi_t, ↓wi_f, ↓wi_s, ↓wi_not, ↓wb_bl, ↓wl_lst, ↓wl_tup, ↓wn_int, ↓wx_ins, ↓wsl_v, ↓wsl_o, ↓wpk_s, ↓wlp_nx, ↓wlp_ct, ↓wlp_bk, ↓wlp_rt, ↓wr_nx, ↓wr_rt, ↓w3_some, ↓w3_none, ↓w3_ite, ↓w3_map, ↓wk_1, ↓wk_2, ↓w_fI, ↓w_neg, ↓w_add, ↓w_eq, ↓w_ne, ↓w_in, ↓w_nin, ↓in_lst, ↓in_tup, ↓in_dct, ↓w_ix, ↓ix_lst, ↓ix_tup, ↓ix_str, ↓ix_dct, ↓w_is, ↓w_len, ↓w_int, ↓w_abs, ↓w_max2, ↓w_min2, ↓w_sum, ↓w_all, ↓w_any, ↓w_repr, ↓w_list, ↓w_tuple, ↓w_mm, ↓w_srt, ↓w_append, ↓w_extend, ↓w_pop, ↓w_popAt, ↓w_insert, ↓w_get2, ↓w_setdef, ↓w_findL, ↓w_findT, ↓w_cnt, ↓wol_some, ↓wod_some, ↓wdv_dct, ↓w_st, ↓stw_lst, ↓stw_dct, ↓w_stF, ↓stfw_ins, ix3_0, ix3_1, ix3_2, ix2_0, ix2_1, decide_eq_true_eq, Bool.and_eq_true, vw_d, vw_s, vwC_v, vwC_o, vwD_non, vwD_bl, vwD_int, vwD_str, vwD_tup, vwD_lst, vwD_dct, vwD_ins, vwD_loc, fz_lst, fz_dct, fz_ins, dv_d, dv_s, dvC_v, ob_s, ob_l, obC_o, obC_l, setC_r, setC_l, ad_int, ad_str, ad_lst, ad_tup, is_nn, is_in, is_tn, is_ln, is_sn, is_bn, is_bb, is_bbn, len_lst, len_tup, len_dct, len_str, int_int, int_bl, ls_lst, itd_lst, itd_dct, kL_lst, kL_tup, kT_tup, kD_dct, tp_tup, at_0, at_1, at_2, at_3, at_4, at_5, at_6, eqk_int, eqk_str, eqk_bl, eqk_nil, eqk_nilL, ink_int, ink_str, ink_bl, ink_non, fnk_int, fnk_str, pl_int, pl_str, pl_bl, pl_non, pl_tup, pl_lst, pls_nil, pls_cons, pls_ap, pls_ints, pls_ints', deq_cons_nil, deq_int, deq_strD, deq_bl, deq_nn, deqs_nn, deqs_cc, deqs_nc, deqs_cn, sz0, sz1, sz2, sz3, sz4, sz5, sz6, sz7, sz8, szl0, stAV, slD, rvD, itsOf, itsEn, itsZp, lsOf, List.getElem?_cons_zero, List.getElem?_cons_succ, List.set_cons_zero, List.set_cons_succ, List.length_cons, List.length_nil, List.length_map, List.length_range, Option.map_some, Option.map_none, Option.bind_some, Option.bind_none, List.append_nil, List.nil_append, List.cons_append, List.map_cons, List.map_nil, Nat.reduceAdd, Nat.reduceLT, Nat.reduceLeDiff, Nat.reduceEqDiff, Nat.zero_lt_succ, Nat.zero_add, true_and, and_true, eq_self, and_self, false_and, and_false, if_true, if_false, ↓reduceIte, Bool.false_eq_true, Bool.not_true, Bool.not_false, Bool.true_and, Bool.and_true, Bool.and_self, Bool.false_and, Bool.and_false, not_true_eq_false, not_false_eq_true, List.dropLast_concat, List.getLast?_concat, wipeS, rstS, rsO_s, rsv_v, rsv_n, rsv_r, decide_true, decide_false, natLit, Int.natCast_zero, Int.natCast_one, Int.reduceEq, Int.reduceLT, Int.reduceLE, Int.reduceNeg, Int.reduceAdd, Int.reduceSub, Int.reduceMul])
  | `(tactic| simp? [$xs,*] at $h:ident) => `(tactic| simp only [$xs,*, ↓w_pure, ↓w_cs, ↓w_vr, ↓w_pk, ↓w_oD, ↓w_m2, ↓w_m1, ↓w_mB, ↓w_tAnd, ↓w_tOr, ↓w_tNot, ↓w_vAnd, ↓w_vOr, ↓w_vNot, ↓w_vIf, ↓w_aN, ↓w_aC, ↓w_aS, ↓w_nFz, ↓w_nBx, ↓w_nLst, ↓w_nTup, ↓w_nDct, ↓w_mCb, ↓w_nCb, ↓w_call, ↓w_meth, ↓w_mkK, ↓w_mIs, ↓w_mCh, ↓w_oN, ↓w_oS, ↓w_mSl, ↓w_mRev, ↓w_mFl, ↓w_mMt, ↓w_mMt2, ↓w_rg1, ↓w_rg2, ↓w_nLRg, ↓w_mTRg, ↓w_iV, ↓w_iEnA, ↓w_iZp, ↓w_iR1, ↓w_iR2, ↓w_nx, ↓w_bk, ↓w_ct, ↓w_no, ↓w_seq, ↓w_ret, ↓w_drop, ↓w_if, ↓w_asg, ↓w_own, ↓w_par, ↓w_avN, ↓w_avV, ↓w_avO, ↓w_sFl, ↓w_gN, ↓w_gsN, ↓w_gsC, ↓w_gT_t, ↓w_gT_p, ↓w_gSb, ↓w_gFl, ↓w_for, ↓w_lc, ↓w_tYs, ↓w_some, ↓w_none, ↓w_ite, ↓w_map, ↓w_bnd, ↓wq_nx, ↓wq_bk, ↓wq_ct, ↓wq_rt, ↓wi_t, ↓wi_f, ↓wi_s, ↓wi_not, ↓wb_bl, ↓wl_lst, ↓wl_tup, ↓wn_int, ↓wx_ins, ↓wsl_v, ↓wsl_o, ↓wpk_s, ↓wlp_nx, ↓wlp_ct, ↓wlp_bk, ↓wlp_rt, ↓wr_nx, ↓wr_rt, ↓w3_some, ↓w3_none, ↓w3_ite, ↓w3_map, ↓wk_1, ↓wk_2, ↓w_fI, ↓w_neg, ↓w_add, ↓w_eq, ↓w_ne, ↓w_in, ↓w_nin, ↓in_lst, ↓in_tup, ↓in_dct, ↓w_ix, ↓ix_lst, ↓ix_tup, ↓ix_str, ↓ix_dct, ↓w_is, ↓w_len, ↓w_int, ↓w_abs, ↓w_max2, ↓w_min2, ↓w_sum, ↓w_all, ↓w_any, ↓w_repr, ↓w_list, ↓w_tuple, ↓w_mm, ↓w_srt, ↓w_append, ↓w_extend, ↓w_pop, ↓w_popAt, ↓w_insert, ↓w_get2, ↓w_setdef, ↓w_findL, ↓w_findT, ↓w_cnt, ↓wol_some, ↓wod_some, ↓wdv_dct, ↓w_st, ↓stw_lst, ↓stw_dct, ↓w_stF, ↓stfw_ins, ix3_0, ix3_1, ix3_2, ix2_0, ix2_1, decide_eq_true_eq, Bool.and_eq_true, vw_d, vw_s, vwC_v, vwC_o, vwD_non, vwD_bl, vwD_int, vwD_str, vwD_tup, vwD_lst, vwD_dct, vwD_ins, vwD_loc, fz_lst, fz_dct, fz_ins, dv_d, dv_s, dvC_v, ob_s, ob_l, obC_o, obC_l, setC_r, setC_l, ad_int, ad_str, ad_lst, ad_tup, is_nn, is_in, is_tn, is_ln, is_sn, is_bn, is_bb, is_bbn, len_lst, len_tup, len_dct, len_str, int_int, int_bl, ls_lst, itd_lst, itd_dct, kL_lst, kL_tup, kT_tup, kD_dct, tp_tup, at_0, at_1, at_2, at_3, at_4, at_5, at_6, eqk_int, eqk_str, eqk_bl, eqk_nil, eqk_nilL, ink_int, ink_str, ink_bl, ink_non, fnk_int, fnk_str, pl_int, pl_str, pl_bl, pl_non, pl_tup, pl_lst, pls_nil, pls_cons, pls_ap, pls_ints, pls_ints', deq_cons_nil, deq_int, deq_strD, deq_bl, deq_nn, deqs_nn, deqs_cc, deqs_nc, deqs_cn, sz0, sz1, sz2, sz3, sz4, sz5, sz6, sz7, sz8, szl0, stAV, slD, rvD, itsOf, itsEn, itsZp, lsOf, List.getElem?_cons_zero, List.getElem?_cons_succ, List.set_cons_zero, List.set_cons_succ, List.length_cons, List.length_nil, List.length_map, List.length_range, Option.map_some, Option.map_none, Option.bind_some, Option.bind_none, List.append_nil, List.nil_append, List.cons_append, List.map_cons, List.map_nil, Nat.reduceAdd, Nat.reduceLT, Nat.reduceLeDiff, Nat.reduceEqDiff, Nat.zero_lt_succ, Nat.zero_add, true_and, and_true, eq_self, and_self, false_and, and_false, if_true, if_false, ↓reduceIte, Bool.false_eq_true, Bool.not_true, Bool.not_false, Bool.true_and, Bool.and_true, Bool.and_self, Bool.false_and, Bool.and_false, not_true_eq_false, not_false_eq_true, List.dropLast_concat, List.getLast?_concat, wipeS, rstS, rsO_s, rsv_v, rsv_n, rsv_r, decide_true, decide_false, natLit, Int.natCast_zero, Int.natCast_one, Int.reduceEq, Int.reduceLT, Int.reduceLE, Int.reduceNeg, Int.reduceAdd, Int.reduceSub, Int.reduceMul] at $h:ident)

namespace K37
open PySem PS
/-- only 0, 1 in leaves -/
def Pl.wf : Pl → Prop
  | .lf m => (∀ x ∈ m, x = 0 ∨ x = 1) ∧ m.length ≤ 16
  | .nd _ _ l r => l.wf ∧ r.wf
def Pl.dep : Pl → Nat
  | .lf _ => 0
  | .nd _ _ l r => 1 + max l.dep r.dep
structure Okk (F G : Nat) (S : List Mg) : Prop where
  sh : ∀ m ∈ S, IsM F G m
  ln : S.length ≤ 64
  sm : F + G ≤ 16
theorem Okk.filter {F G : Nat} {S : List Mg} (h : Okk F G S) (f : Mg → Bool) : Okk F G (S.filter f) := ⟨fun m hm => h.sh m (List.mem_filter.mp hm).1, Nat.le_trans (List.length_filter_le _ _) h.ln, h.sm⟩
theorem Okk.ask {F G : Nat} {S : List Mg} (h : Okk F G S) {a t : Nat} (ha : a < F) (ht : t < G) : Ask a t S := ⟨le_szC (c := 64) h.ln, fun m hm => ⟨le_szC (c := 16) (by have := len_of (h.sh m hm); have := h.sm; omega), by rw [(h.sh m hm).2.1]; exact ha, by rw [(h.sh m hm).2.2]; exact ht⟩⟩
theorem dtZ (a b : Mg) : deq (tZ a) (tZ b) = decide (a = b) := deq_tZ a b
theorem pd_tZ {k : Nat} (a : Mg) : Pd (k + 1) (tZ a) := pd_tup (pds_map fun _ _ => pd_int)
theorem at_list {α : Type} {l : List α} (h : l.length = 1) : ∃ x, l = [x] := by
  match l, h with
  | [x], _ => exact ⟨x, rfl⟩
theorem e_is_merge_ofN (F G : Nat) (m : Mg) (S : Sto) (hm : m.length ≤ 16) (h : ∀ x ∈ m, x = 0 ∨ x = 1) : f_is_merge_of [.int F, .int G, tZ m] S = some (.bl (decide (m.count 0 = F) && decide (m.count 1 = G)), S) := by
  rw [e_is_merge_of F G m S (le_szC (c := 16) hm) h]
  simp only [Int.natCast_inj]
theorem ne_mc : (("merged" : Str) = "compare") = False := by simp only [eq_iff_iff, iff_false]; decide
theorem ne_cm : (("compare" : Str) = "merged") = False := by simp only [eq_iff_iff, iff_false]; decide
theorem lt_i (a F : Nat) : (decide ((0 : Int) ≤ a ∧ (a : Int) ≤ (F : Int) - 1)) = decide (a < F) := by rw [decide_eq_decide]; omega
theorem e_does_merge (F G : Nat) (hF : F ≤ 5) (hG : G ≤ 5) : ∀ (n : Nat) (p : Pl) (S : List Mg) (St : Sto), p.dep < n → p.wf → Okk F G S → f_does_merge n [.int F, .int G, dP p, tM S] St = some (.bl (okB F G p S), St)
  | 0, _, _, _, h, _, _ => absurd h (by omega)
  | n + 1, .lf m, S, St, h, hw, hS => by
    have em := e_is_merge_ofN F G m St hw.2 hw.1
    refine WO.eq (w_def [(some (SV.val (.int F))), (some (SV.val (.int G))), (some (SV.val (dP (.lf m)))), (some (SV.val (tM S))), none, none] rfl rfl ?_)
    by_cases h1 : S.length = 1
    · obtain ⟨x, rfl⟩ := at_list h1
      have e2 : eqOk (tZ m) (tZ x) := eqOk_l (pd_tZ (k := 63) m) (pl_tZ x)
      have e3 : ([x] = [m]) = (m = x) := by simp [eq_comm]
      cases c1 : decide (m.count 0 = F) <;> cases c2 : decide (m.count 1 = G) <;> simp? [b_does_merge, dP, PyData.isTuple, PyData.isStr, py, em, dtZ, e2, okB, c1, c2, e3]
    · have h2 : ¬ ((S.length : Int) = 1) := by omega
      simp? [b_does_merge, dP, PyData.isTuple, PyData.isStr, py, okB, h2, h1]
  | n + 1, .nd a t l r, S, St, h, hw, hS => by
    have hd : 1 + max l.dep r.dep < n + 1 := h
    refine WO.eq (w_def [(some (SV.val (.int F))), (some (SV.val (.int G))), (some (SV.val (dP (.nd a t l r)))), (some (SV.val (tM S))), none, none] rfl rfl ?_)
    by_cases ha : a < F
    · by_cases ht : t < G
      · have ep := e_parted S a t St (hS.ask ha ht)
        have el := e_does_merge F G hF hG n l (Lo a t S) St (by omega) hw.1 (hS.filter _)
        have er := e_does_merge F G hF hG n r (Mo a t S) St (by omega) hw.2 (hS.filter _)
        cases c1 : (Lo a t S).isEmpty <;> cases c2 : (Mo a t S).isEmpty <;> cases c3 : okB F G l (Lo a t S) <;> simp? [b_does_merge, dP, PyData.isTuple, PyData.isStr, py, ne_cm, e_is_between, lt_i, ha, ht, ep, pl_dP, pls_tZs, deq_nil, el, er, c1, c2, okB, wok, c3]
      · simp? [b_does_merge, dP, PyData.isTuple, PyData.isStr, py, ne_cm, e_is_between, lt_i, ha, ht, okB, pl_dP]
    · simp? [b_does_merge, dP, PyData.isTuple, PyData.isStr, py, ne_cm, e_is_between, lt_i, ha, okB, pl_dP]
end K37

open PySem PS

namespace K37
open PySem PS
/-- all questions are of the shape -/
def Pl.inn (F G : Nat) : Pl → Prop
  | .lf _ => True
  | .nd a t l r => a < F ∧ t < G ∧ l.inn F G ∧ r.inn F G
theorem Ok.inn {F G : Nat} : ∀ {p : Pl} {S : List Mg}, Ok F G p S → p.inn F G
  | .lf _, _, _ => trivial
  | .nd _ _ _ _, _, ⟨h1, h2, _, _, h5, h6⟩ => ⟨h1, h2, Ok.inn h5, Ok.inn h6⟩
theorem Ok.dep {F G : Nat} : ∀ {p : Pl} {S : List Mg}, Ok F G p S → p.dep < S.length
  | .lf _, _, e => by rw [show _ = _ from e]; exact Nat.zero_lt_one
  | .nd a t l r, S, ⟨h1, h2, h3, h4, h5, h6⟩ => by
    have a1 := Ok.dep h5
    have a2 := Ok.dep h6
    have := lomo a t S
    show 1 + max l.dep r.dep < _
    omega
theorem Ok.wf {F G : Nat} : ∀ {p : Pl} {S : List Mg}, Ok F G p S → Okk F G S → p.wf
  | .lf m, _, e, h => by
    have := h.sh m (by rw [show _ = _ from e]; simp)
    exact ⟨this.1, by rw [len_of this]; exact h.sm⟩
  | .nd _ _ _ _, _, ⟨h1, h2, _, _, h5, h6⟩, h => ⟨Ok.wf h5 (h.filter _), Ok.wf h6 (h.filter _)⟩
/-- what is asked on the way -/
def trail : Pl → Mg → List (Nat × Nat × Int)
  | .lf _, _ => []
  | .nd a t l r, m => (a, t, if lessB a t m then -1 else 1) :: (if lessB a t m then trail l m else trail r m)
theorem trail_len (m : Mg) : ∀ p, (trail p m).length = plen p m
  | .lf _ => rfl
  | .nd a t l r => by
    rw [trail, plen, List.length_cons]
    cases lessB a t m
    · simp [trail_len m r]; omega
    · simp [trail_len m l]; omega
theorem trail_dep (m : Mg) : ∀ p, (trail p m).length ≤ p.dep
  | .lf _ => Nat.le_refl _
  | .nd a t l r => by
    have h1 := trail_dep m l
    have h2 := trail_dep m r
    show _ ≤ 1 + max l.dep r.dep
    rw [trail, List.length_cons]
    split <;> omega
def qD (q : Nat × Nat × Int) : D := .tup [.int q.1, .int q.2.1, .int q.2.2]
theorem e_comparisons_to {F G : Nat} {p : Pl} {m : Mg} (hp : p.inn F G) (hd : p.dep ≤ 64) (hm : IsM F G m) (hs : F + G ≤ 16) (St : Sto) : f_comparisons_to [dP p, tZ m] St = some (.tup ((trail p m).map qD), St) := by
  refine WO.eq (w_def [(some (SV.val (dP p))), (some (SV.val (tZ m))), none, none] rfl rfl ?_)
  simp? [b_comparisons_to]
  refine w_wh (fun n sl S => S = St ∧ ∃ p' acc x, sl = [(some (SV.val (dP p'))), (some (SV.val (tZ m))), (some (SV.own (.lst (List.map qD acc)))), x] ∧ p'.dep = n ∧ p'.inn F G ∧ acc ++ trail p' m = trail p m) ?_ (n := p.dep) ⟨rfl, p, [], _, rfl, rfl, hp, rfl⟩
  rintro n sl S ⟨rfl, p', acc, x, rfl, rfl, hi, ha⟩
  cases p' with
  | lf k =>
    simp? [dP, ne_mc]
    rw [trail, List.append_nil] at ha
    rw [ha]
  | nd a t l r =>
    have el := e_is_less m a t S (le_szC (c := 16) (by rw [len_of hm]; exact hs)) (by rw [hm.2.1]; exact hi.1) (by rw [hm.2.2]; exact hi.2.1)
    have hlen : acc.length < sizeLine := lt_szC (c := 64) (by
      have := congrArg List.length ha
      have h2 := trail_dep m p
      rw [List.length_append] at this
      omega)
    have hdl : l.dep < (Pl.nd a t l r).dep := by show _ < 1 + max _ _; omega
    have hdr : r.dep < (Pl.nd a t l r).dep := by show _ < 1 + max _ _; omega
    cases c : lessB a t m
    · simp? [dP, el, c, hlen]
      refine ⟨_, hdr, r, acc ++ [(a, t, 1)], (some (SV.val (.int 1))), ?_, rfl, hi.2.2.2, ?_⟩
      · rw [List.map_append]; rfl
      · rw [trail, c] at ha; rw [List.append_assoc]; exact ha
    · simp? [dP, el, c, hlen]
      refine ⟨_, hdl, l, acc ++ [(a, t, -1)], (some (SV.val (.int (-1)))), ?_, rfl, hi.2.2.1, ?_⟩
      · rw [List.map_append]; rfl
      · rw [trail, c] at ha; rw [List.append_assoc]; exact ha
/-- the shapes that are asked of -/
structure Sh (F G : Nat) : Prop where
  f0 : 0 < F
  g0 : 0 < G
  fg : F + G ≤ 6
theorem Sh.F5 {F G : Nat} (h : Sh F G) : F ≤ 5 := by have := h.g0; have := h.fg; omega
theorem Sh.G5 {F G : Nat} (h : Sh F G) : G ≤ 5 := by have := h.f0; have := h.fg; omega
theorem every_len (F G : Nat) (h : F + G ≤ 6) : (every F G).length ≤ 64 := by
  unfold every srtM
  rw [List.length_mergeSort]
  exact Nat.le_trans (bld_len F G _) (Nat.le_trans (Nat.pow_le_pow_right (by decide) h) (by decide))
theorem mem_stp {F G : Nat} {m k : Mg} : k ∈ stp F G m ↔ (m.count 0 < F ∧ k = m ++ [0]) ∨ (m.count 1 < G ∧ k = m ++ [1]) := by
  unfold stp stp0 stp1
  rw [List.mem_append]
  constructor
  · rintro (h | h)
    · split at h
      · exact .inl ⟨by assumption, by simpa using h⟩
      · cases h
    · split at h
      · exact .inr ⟨by assumption, by simpa using h⟩
      · cases h
  · rintro (⟨h, rfl⟩ | ⟨h, rfl⟩)
    · exact .inl (by rw [if_pos h]; simp)
    · exact .inr (by rw [if_pos h]; simp)
theorem mem_bld {F G : Nat} : ∀ {n : Nat} {m : Mg}, m ∈ bld F G n ↔ m.length = n ∧ (∀ x ∈ m, x = 0 ∨ x = 1) ∧ m.count 0 ≤ F ∧ m.count 1 ≤ G
  | 0, m => by
    constructor
    · intro h
      have : m = [] := by simpa [bld] using h
      subst this
      simp
    · rintro ⟨h, _⟩
      have : m = [] := List.length_eq_zero_iff.mp h
      subst this
      simp [bld]
  | n + 1, m => by
    rw [bld, List.mem_flatMap]
    constructor
    · rintro ⟨k, hk, hm⟩
      obtain ⟨h1, h2, h3, h4⟩ := mem_bld.mp hk
      rcases mem_stp.mp hm with ⟨h, rfl⟩ | ⟨h, rfl⟩
      · refine ⟨by simp [h1], fun x hx => ?_, by rw [List.count_append]; simp; omega, by rw [List.count_append]; simpa using h4⟩
        rcases List.mem_append.mp hx with hx | hx
        · exact h2 x hx
        · exact .inl (by simpa using hx)
      · refine ⟨by simp [h1], fun x hx => ?_, by rw [List.count_append]; simpa using h3, by rw [List.count_append]; simp; omega⟩
        rcases List.mem_append.mp hx with hx | hx
        · exact h2 x hx
        · exact .inr (by simpa using hx)
    · rintro ⟨h1, h2, h3, h4⟩
      rcases List.eq_nil_or_concat m with rfl | ⟨k, x, rfl⟩
      · simp at h1
      · rw [List.concat_eq_append] at *
        have hk : k.length = n := by simpa using h1
        rw [List.count_append] at h3 h4
        rcases h2 x (by simp) with rfl | rfl
        · refine ⟨k, mem_bld.mpr ⟨hk, fun y hy => h2 y (List.mem_append_left _ hy), by omega, by omega⟩, mem_stp.mpr (.inl ⟨?_, rfl⟩)⟩
          simp at h3; omega
        · refine ⟨k, mem_bld.mpr ⟨hk, fun y hy => h2 y (List.mem_append_left _ hy), by omega, by omega⟩, mem_stp.mpr (.inr ⟨?_, rfl⟩)⟩
          simp at h4; omega
theorem stp_nd (F G : Nat) (m : Mg) : (stp F G m).Nodup := by
  unfold stp stp0 stp1
  split <;> split <;> simp
theorem nodup_flat {α β : Type} {f : α → List β} : ∀ {l : List α}, (∀ a ∈ l, (f a).Nodup) → (l.Pairwise fun a b => ∀ x ∈ f a, ¬ x ∈ f b) → (l.flatMap f).Nodup
  | [], _, _ => by simp
  | a :: l, h1, h2 => by
    rw [List.flatMap_cons, List.nodup_append]
    rw [List.pairwise_cons] at h2
    refine ⟨h1 a (List.mem_cons_self ..), nodup_flat (fun b hb => h1 b (List.mem_cons_of_mem _ hb)) h2.2, fun x hx y hy e => ?_⟩
    subst e
    obtain ⟨b, hb, hy⟩ := List.mem_flatMap.mp hy
    exact h2.1 b hb x hx hy
theorem bld_nd (F G : Nat) : ∀ n, (bld F G n).Nodup
  | 0 => by simp [bld]
  | n + 1 => by
    rw [bld]
    have ih := bld_nd F G n
    refine nodup_flat (fun m _ => stp_nd F G m) ?_
    refine ih.imp fun {a b} hne => ?_
    intro k h1 h2
    rcases mem_stp.mp h1 with ⟨_, rfl⟩ | ⟨_, rfl⟩ <;> rcases mem_stp.mp h2 with ⟨_, e⟩ | ⟨_, e⟩
    all_goals
      have e := List.append_inj' e rfl
      first | exact hne e.1 | (have := e.2; simp at this)
theorem mem_every {F G : Nat} {m : Mg} : m ∈ every F G ↔ IsM F G m := by
  unfold every srtM
  rw [List.mem_mergeSort, mem_bld]
  constructor
  · rintro ⟨h1, h2, h3, h4⟩
    have : m.count 0 + m.count 1 = m.length := by
      have := len_of (F := m.count 0) (G := m.count 1) ⟨h2, rfl, rfl⟩
      omega
    exact ⟨h2, by omega, by omega⟩
  · rintro h
    exact ⟨len_of h, h.1, by rw [h.2.1]; exact Nat.le_refl _, by rw [h.2.2]; exact Nat.le_refl _⟩
theorem every_set (F G : Nat) : Set1 F G (every F G) := ⟨by
  unfold every srtM
  exact (List.mergeSort_perm _ _).nodup_iff.mpr (bld_nd F G _), fun m hm => mem_every.mp hm⟩
theorem every_ne (F G : Nat) : every F G ≠ [] := by
  have : (List.replicate F (0 : Int) ++ List.replicate G 1) ∈ every F G := mem_every.mpr ⟨fun x hx => by
    rcases List.mem_append.mp hx with h | h
    · exact .inl (List.mem_replicate.mp h).2
    · exact .inr (List.mem_replicate.mp h).2, by simp [List.count_append, List.count_replicate], by simp [List.count_append, List.count_replicate]⟩
  exact List.ne_nil_of_mem this
theorem flip_isM {F G : Nat} {m : Mg} (h : IsM F G m) : IsM G F (flip m) := by
  obtain ⟨h1, h2, h3⟩ := h
  have hc : ∀ (m : Mg) (r : Int), (flip m).count r = m.count (1 - r) := fun m r => by
    induction m with
    | nil => rfl
    | cons x m ih =>
      have : flip (x :: m) = (1 - x) :: flip m := rfl
      rw [this, List.count_cons, List.count_cons, ih]
      congr 1
      by_cases h : x = 1 - r
      · subst h
        simp
        omega
      · have : ¬ (1 - x = r) := by omega
        simp [h, this]
  refine ⟨fun x hx => ?_, by rw [hc]; exact h3, by rw [hc]; exact h2⟩
  obtain ⟨y, hy, rfl⟩ := List.mem_map.mp hx
  rcases h1 y hy with rfl | rfl
  · exact .inr rfl
  · exact .inl rfl
theorem flip_flip {m : Mg} : flip (flip m) = m := by
  unfold flip
  rw [List.map_map]
  conv => rhs; rw [← List.map_id m]
  exact List.map_congr_left fun x _ => by simp; omega
theorem flip_inj {a b : Mg} (h : flip a = flip b) : a = b := by rw [← flip_flip (m := a), h, flip_flip]
theorem every_flip (F G : Nat) : (every G F).Perm ((every F G).map flip) := by
  refine (List.perm_ext_iff_of_nodup (every_set G F).nd ?_).mpr fun m => ?_
  · exact List.Pairwise.map _ (fun a b (h : a ≠ b) e => h (flip_inj e)) (every_set F G).nd
  · rw [mem_every, List.mem_map]
    constructor
    · intro h
      exact ⟨flip m, mem_every.mpr (flip_isM h), flip_flip⟩
    · rintro ⟨k, hk, rfl⟩
      exact flip_isM (mem_every.mp hk)
theorem best_same (sm : Bool) (F G : Nat) : best sm G F (every G F) = best sm F G (every F G) :=
  Nat.le_antisymm (best_flip_le sm (every_set F G) (every_ne F G) (every_flip F G)) (best_flip_le sm (every_set G F) (every_ne G F) (every_flip G F))
theorem every_okk {F G : Nat} (h : F + G ≤ 6) : Okk F G (every F G) := ⟨(every_set F G).sh, every_len F G h, by omega⟩
theorem e_is_merging {F G : Nat} (h : Sh F G) {p : Pl} (hd : p.dep < 40) (hw : p.wf) (S : Sto) : f_is_merging [.int F, .int G, dP p] S = some (.bl (okB F G p (every F G)), S) := by
  have e1 := e_check_lengths F G S ⟨⟨by omega, by have := h.F5; omega⟩, by omega, by have := h.G5; omega⟩
  have e2 := e_told_merges F G S h.fg (by have := h.f0; omega)
  have e3 := e_does_merge F G h.F5 h.G5 40 p (every F G) S hd hw (every_okk h.fg)
  revert e2 e3
  generalize every F G = E
  intro e2 e3
  refine WO.eq (w_def [(some (SV.val (.int F))), (some (SV.val (.int G))), (some (SV.val (dP p)))] rfl rfl ?_)
  simp? [b_is_merging, e1, e2, e3]
theorem bld_20 : ∀ F, F < 7 → ∀ G, G < 7 → F + G ≤ 6 → (bld F G (F + G)).length ≤ 20 := by decide +kernel
theorem every_20 {F G : Nat} (h : F + G ≤ 6) : (every F G).length ≤ 20 := by
  unfold every srtM
  rw [List.length_mergeSort]
  exact bld_20 F (by omega) G (by omega) h
theorem Ok.dep40 {F G : Nat} (h : F + G ≤ 6) {p : Pl} (hp : Ok F G p (every F G)) : p.dep < 20 := Nat.lt_of_lt_of_le hp.dep (every_20 h)
theorem e_compared_by {F G : Nat} (h : Sh F G) {p : Pl} (hp : Ok F G p (every F G)) {m : Mg} (hm : IsM F G m) (S : Sto) : f_compared_by [.int F, .int G, dP p, tZ m] S = some (.tup ((trail p m).map qD), S) := by
  have hd := Ok.dep40 h.fg hp
  have ok := (okB_ok (every_set F G).sh).mpr hp
  have e1 := e_is_merging h (p := p) (by omega) (hp.wf (every_okk h.fg)) S
  rw [ok] at e1
  have e2 := e_is_merge_ofN F G m S (by rw [len_of hm]; have := h.fg; omega) hm.1
  have e3 := e_comparisons_to hp.inn (by omega) hm (by have := h.fg; omega) S
  refine WO.eq (w_def [(some (SV.val (.int F))), (some (SV.val (.int G))), (some (SV.val (dP p))), (some (SV.val (tZ m)))] rfl rfl ?_)
  simp? [b_compared_by, e1, e2, e3, hm.2.1, hm.2.2]
/-! by heads -/
def heads (F G : Nat) : Mg → Nat → Nat → List (Nat × Nat × Int)
  | [], _, _ => []
  | x :: m, a, t => (if a < F ∧ t < G then [(a, t, if x = 0 then -1 else 1)] else []) ++ heads F G m (if x = 0 then a + 1 else a) (if x = 0 then t else t + 1)
theorem e_by_heads {F G : Nat} (h : Sh F G) {m : Mg} (hm : IsM F G m) (S : Sto) : f_by_heads [.int F, .int G, tZ m] S = some (.tup ((heads F G m 0 0).map qD), S) := by
  have e1 := e_check_lengths F G S ⟨⟨by omega, by have := h.F5; omega⟩, by omega, by have := h.G5; omega⟩
  have e2 := e_is_merge_ofN F G m S (by rw [len_of hm]; have := h.fg; omega) hm.1
  refine WO.eq (w_def [(some (SV.val (.int F))), (some (SV.val (.int G))), (some (SV.val (tZ m))), none, none, none, none] rfl rfl ?_)
  simp? [b_by_heads, e1, e2, hm.2.1, hm.2.2]
  refine wfoC (l0 := m) (inj := D.int) (fun pre sl => ∃ x a t acc post, sl = [(some (SV.val (.int F))), (some (SV.val (.int G))), (some (SV.val (tZ m))), x, (some (SV.val (.int (a : Nat)))), (some (SV.val (.int (t : Nat)))), (some (SV.own (.lst (List.map qD acc))))] ∧ m = pre ++ post ∧ acc ++ heads F G post a t = heads F G m 0 0 ∧ acc.length ≤ pre.length) rfl ⟨_, 0, 0, [], m, rfl, rfl, rfl, Nat.le_refl _⟩ ?_ ?_
  · rintro pre y post sl e ⟨x, a, t, acc, post', rfl, e2, ha, hl⟩
    have : post' = y :: post := List.append_cancel_left (e2.symm.trans e)
    subst this
    have hlen : acc.length < sizeLine := lt_szC (c := 64) (by
      have := len_of hm
      have := h.fg
      have := congrArg List.length e
      rw [List.length_append] at this
      omega)
    rcases hm.1 y (by rw [e]; simp) with rfl | rfl <;> by_cases c1 : a < F <;> by_cases c2 : t < G <;> simp? [Int.ofNat_lt, c1, c2, hlen]
    all_goals
      rw [heads] at ha
      simp only [c1, c2, and_self, and_true, true_and, and_false, false_and, if_true, if_false, List.nil_append, Int.reduceEq, ← List.append_assoc] at ha
      exact ⟨_, _, _, _, post, (by first | rfl | rw [List.map_append]; rfl), (by rw [e, List.append_assoc]; rfl), ha, by simp; omega⟩
  · rintro sl ⟨x, a, t, acc, post, rfl, e, ha, _⟩
    have : post = [] := by simpa using e
    subst this
    rw [heads, List.append_nil] at ha
    simp? [ha]
theorem heads_len (F G : Nat) : ∀ (m : Mg) (a t : Nat), (∀ x ∈ m, x = 0 ∨ x = 1) → a + m.count 0 = F → t + m.count 1 = G → (heads F G m a t).length ≤ m.length - 1
  | [], _, _, _, _, _ => Nat.le_refl _
  | x :: m, a, t, h, h1, h2 => by
    have hx := h x (List.mem_cons_self ..)
    have hlen : m.count 0 + m.count 1 = m.length := by
      have := len_of (m := m) (F := m.count 0) (G := m.count 1) ⟨fun y hy => h y (List.mem_cons_of_mem _ hy), rfl, rfl⟩
      omega
    have one : ∀ (c : Prop) [Decidable c] (y : Nat × Nat × Int), (if c then [y] else []).length ≤ 1 := fun c _ y => by split <;> simp
    rw [heads, List.length_append, List.length_cons]
    rw [List.count_cons] at h1 h2
    rcases hx with rfl | rfl
    · simp at h1 h2
      have ih := heads_len F G m (a + 1) t (fun y hy => h y (List.mem_cons_of_mem _ hy)) (by omega) (by omega)
      rw [if_pos rfl, if_pos rfl, if_pos rfl]
      have := one (a < F ∧ t < G) (a, t, -1)
      by_cases hc : a < F ∧ t < G
      · omega
      · rw [if_neg hc]; simp only [List.length_nil]; omega
    · simp at h1 h2
      have ih := heads_len F G m a (t + 1) (fun y hy => h y (List.mem_cons_of_mem _ hy)) (by omega) (by omega)
      have e10 : ¬ ((1 : Int) = 0) := by decide
      simp only [e10, if_false]
      have := one (a < F ∧ t < G) (a, t, 1)
      by_cases hc : a < F ∧ t < G
      · omega
      · rw [if_neg hc]; simp only [List.length_nil]; omega
end K37

open PySem PS

namespace K37
open PySem PS
def mflds (F G : Nat) (sm : Bool) (n : Nat) : List (Str × D) := [("own_first", .int F), ("own_second", .int G), ("own_is_sum", .bl sm), ("own_best", .loc n)]
abbrev Mv := Nat × Option (Nat × Nat)
def mval (v : Mv) : D := .tup [.int v.1, match v.2 with | none => .non | some p => tP2 p]
abbrev Mp := List (List Mg × Mv)
abbrev kvM (mp : Mp) : List (D × D) := kvE (fun S : List Mg => tM S) mval mp
def Mst (S0 : Sto) (F G : Nat) (sm : Bool) (mp : Mp) : Sto := S0 ++ [.ins "Mergers" (mflds F G sm (S0.length + 1)), .dct true (kvM mp)]
theorem fl_first {F G : Nat} {sm : Bool} {n : Nat} : (mflds F G sm n).lookup ("own_first" : Str) = some (.int F) := rfl
theorem fl_second {F G : Nat} {sm : Bool} {n : Nat} : (mflds F G sm n).lookup ("own_second" : Str) = some (.int G) := rfl
theorem fl_sum {F G : Nat} {sm : Bool} {n : Nat} : (mflds F G sm n).lookup ("own_is_sum" : Str) = some (.bl sm) := rfl
theorem fl_best {F G : Nat} {sm : Bool} {n : Nat} : (mflds F G sm n).lookup ("own_best" : Str) = some (.loc n) := rfl
theorem fn_best {F G : Nat} {sm : Bool} {n : Nat} : (mflds F G sm n).lookup ("best" : Str) = none := rfl
theorem fn_tree {F G : Nat} {sm : Bool} {n : Nat} : (mflds F G sm n).lookup ("tree" : Str) = none := rfl
theorem fn_number {F G : Nat} {sm : Bool} {n : Nat} : (mflds F G sm n).lookup ("number" : Str) = none := rfl
section
variable {S0 : Sto} {F G : Nat} {sm : Bool} {mp : Mp}
theorem m_at0 : (Mst S0 F G sm mp)[S0.length]? = some (.ins "Mergers" (mflds F G sm (S0.length + 1))) := by
  unfold Mst
  rw [List.getElem?_append_right (Nat.le_refl _), Nat.sub_self]; rfl
theorem m_at1 : (Mst S0 F G sm mp)[S0.length + 1]? = some (.dct true (kvM mp)) := by
  unfold Mst
  rw [List.getElem?_append_right (by omega), show S0.length + 1 - S0.length = 1 by omega]; rfl
theorem m_set {mp' : Mp} : (Mst S0 F G sm mp).set (S0.length + 1) (.dct true (kvM mp')) = Mst S0 F G sm mp' := by
  unfold Mst
  rw [List.set_append_right _ _ (by omega), show S0.length + 1 - S0.length = 1 by omega]; rfl
theorem m_len {mp' : Mp} : (Mst S0 F G sm mp).length = (Mst S0 F G sm mp').length := by unfold Mst; rw [List.length_append, List.length_append]; rfl
end
theorem e_init {F G : Nat} {sm : Bool} {S0 : Sto} : f_Mergers___init__ [.loc S0.length, .int F, .int G, .bl sm] (S0 ++ [.ins "Mergers" []]) = some (.non, Mst S0 F G sm []) := by
  refine WO.eq (w_defK [(some (SV.val (.loc S0.length))), (some (SV.val (.int F))), (some (SV.val (.int G))), (some (SV.val (.bl sm)))] rfl rfl ?_)
  simp? [b_Mergers___init__, List.getElem?_concat_length, set_last, List.length_append, at_last2, set_last2]
  refine ⟨show (1 : Nat) < 1000 by decide, show (2 : Nat) < 1000 by decide, show (3 : Nat) < 1000 by decide, ?_⟩
  unfold Mst
  rw [List.append_assoc]; rfl
/-- what stands for a lot -/
structure MvOk (F G : Nat) (sm : Bool) (T : List Mg) (v : Mv) : Prop where
  nu : v.1 = best sm F G T
  sh : T.length < 2 → v.2 = none
  wy : ¬ T.length < 2 → ∃ p, v.2 = some p ∧ p ∈ ways F G T ∧ num sm T.length (best sm F G (Lo p.1 p.2 T)) (best sm F G (Mo p.1 p.2 T)) = best sm F G T
/-- the dict is right, and closed -/
structure MpOk (F G : Nat) (sm : Bool) (E : List Mg) (mp : Mp) : Prop where
  ok : ∀ T v, lk mp T = some v → MvOk F G sm T v
  cl : ∀ T v, lk mp T = some v → ∀ p ∈ ways F G T, (lk mp (Lo p.1 p.2 T)).isSome = true ∧ (lk mp (Mo p.1 p.2 T)).isSome = true
  nd : (mp.map (·.1)).Nodup
  su : ∀ p ∈ mp, p.1.Sublist E
theorem MpOk.len {F G : Nat} {sm : Bool} {E : List Mg} {mp : Mp} (h : MpOk F G sm E mp) (hE : E.length ≤ 20) : mp.length < sizeLine := by
  have := subl_count E (mp.map (·.1)) h.nd (fun T hT => by
    obtain ⟨p, hp, rfl⟩ := List.mem_map.mp hT
    exact h.su p hp)
  rw [List.length_map] at this
  exact lt_szC (c := 2 ^ 20) (Nat.le_trans this (Nat.pow_le_pow_right (by decide) hE))
theorem MpOk.put {F G : Nat} {sm : Bool} {E : List Mg} {mp : Mp} (h : MpOk F G sm E mp) {T : List Mg} {v : Mv} (hT : T.Sublist E) (hn : lk mp T = none) (hv : MvOk F G sm T v) (hc : ∀ p ∈ ways F G T, (lk mp (Lo p.1 p.2 T)).isSome = true ∧ (lk mp (Mo p.1 p.2 T)).isSome = true) : MpOk F G sm E (put mp T v) where
  ok := fun U u e => by
    rw [lk_put] at e
    split at e
    · rename_i q; subst q; cases e; exact hv
    · exact h.ok U u e
  cl := fun U u e p hp => by
    rw [lk_put] at e
    have key : (lk mp (Lo p.1 p.2 U)).isSome = true ∧ (lk mp (Mo p.1 p.2 U)).isSome = true := by
      split at e
      · rename_i q; subst q; exact hc p hp
      · exact h.cl U u e p hp
    rw [lk_put, lk_put]
    constructor
    · split
      · rfl
      · exact key.1
    · split
      · rfl
      · exact key.2
  nd := by
    rw [put_new hn, List.map_append, List.nodup_append]
    refine ⟨h.nd, by simp, fun a ha b hb e => ?_⟩
    obtain ⟨p, hp, rfl⟩ := List.mem_map.mp ha
    have : b = T := by simpa using hb
    exact lk_none.mp hn p hp (e.trans this)
  su := fun p hp => by
    rcases put_mem hp with rfl | hp
    · exact hT
    · exact h.su p hp
theorem dlk_M (mp : Mp) (T : List Mg) : dlk (kvM mp) (tM T) = (lk mp T).map mval := dlk_E kc_tZZ.dec mp T
theorem dput_M0 (mp : Mp) (T : List Mg) : dput (kvM mp) (tM T) (.tup [.int 0, .non]) = kvM (put mp T (0, none)) := dput_E (g := mval) kc_tZZ.dec mp T (0, none)
theorem dput_M (mp : Mp) (T : List Mg) (v : Mv) : dput (kvM mp) (tM T) (mval v) = kvM (put mp T v) := dput_E (g := mval) kc_tZZ.dec mp T v
theorem ok_M (T : List Mg) : okKey true (tM T) = true := kc_tZZ.ok T
theorem len_M (mp : Mp) : (kvM mp).length = mp.length := kvE_len mp
theorem pl_tM (T : List Mg) : pl (tM T) = true := pls_tZs T
theorem pls_tMs (L : List (List Mg)) : pls (L.map fun T => tM T) = true := pls_map pl_tM L
theorem deqs_an (ds : List D) (d : D) : deqs (ds ++ [d]) [] = false := by cases ds <;> rfl
noncomputable abbrev LOOP : MS := (sWh (mB (m2 (gEq true) (pk 2) (oD (nFz (nLst aN))))) (sSeq (sSet 3 (m2 gIx (pk 2) (oD (m1 gNeg (oD (cs (.int 1))))))) (sIf (mB (m2 (gIn false) (pk 3) (oD (mFl "Mergers" "own_best" (pk 0))))) (sDrop (mMt kL fPop (pk 2) aN)) (sIf (mB (m2 gLt (oD (mCb gLen (aC (pk 3) aN))) (oD (cs (.int 2))))) (sAsg (nTup (aC (cs (.int 0)) (aC (cs .non) aN))) (gSb (oD (mFl "Mergers" "own_best" (pk 0))) (vr 3))) (sSeq (sSet 4 (mCall f_questions [] (aC (mFl "Mergers" "own_first" (pk 0)) (aC (mFl "Mergers" "own_second" (pk 0)) (aC (vr 3) aN))))) (sSeq (sOwn 5 (nLst aN)) (sSeq (sFor (iV (vr 4)) (gT 4 (gsC (gN 6) (gsC (gN 7) (gsC (gN 8) (gsC (gN 9) gsN))))) (sDrop (mMt kL fExtend (pk 5) (aC (nFz (nLc (iV (nTup (aC (vr 8) (aC (vr 9) aN)))) (gN 10) (mB (m2 (gIn true) (pk 10) (oD (mFl "Mergers" "own_best" (pk 0))))) (vr 10) [10])) aN)))) (sIf (mB (m2 (gEq true) (pk 5) (oD (nFz (nLst aN))))) (sDrop (mMt kL fExtend (pk 2) (aC (vr 5) aN))) (sAsg (mCb (gMM PySem.W.minD) (aC (oD (nFz (nLc (iV (vr 4)) (gN 11) tYs (nTup (aC (mMeth "Mergers" "number" f_Mergers_number [] (vr 0) (aC (vr 3) (aC (vr 11) aN))) (aC (mSl (pk 11) oN (oS (cs (.int 2)))) aN))) [11]))) aN)) (gSb (oD (mFl "Mergers" "own_best" (pk 0))) (vr 3)))))))))))
abbrev Cl9 := Option SV × Option SV × Option SV × Option SV × Option SV × Option SV × Option SV × Option SV × Option SV
def stB (S0 : Sto) (T0 : List Mg) (W : List (List Mg)) (x : Cl9) : Sl := [(some (SV.val (.loc S0.length))), (some (SV.val (tM T0))), (some (SV.own (.lst (W.map fun T => tM T)))), x.1, x.2.1, x.2.2.1, x.2.2.2.1, x.2.2.2.2.1, x.2.2.2.2.2.1, x.2.2.2.2.2.2.1, x.2.2.2.2.2.2.2.1, x.2.2.2.2.2.2.2.2]
section
variable {S0 : Sto} {F G : Nat} {sm : Bool} {T0 : List Mg} {E : List Mg} {QF : Fl → Sl → Sto → Prop}
/-- the top is known: it goes -/
theorem bA {mp : Mp} {W : List (List Mg)} {T : List Mg} {x : Cl9} (h : (lk mp T).isSome = true) (k : ∀ y, WM LOOP (stB S0 T0 W y) (Mst S0 F G sm mp) QF) : WM LOOP (stB S0 T0 (W ++ [T]) x) (Mst S0 F G sm mp) QF := by
  refine w_wh1 ?_
  unfold stB
  rw [List.map_append]
  simp? [deq_ll, deqs_an, at_m1, pl_lst, pls_tMs, pl_tM, m_at0, fl_best, m_at1, dlk_M, Option.isSome_map, ok_M, pls_tZs, h]
  exact k (_, _, _, _, _, _, _, _, _)
/-- a short lot -/
theorem bB {mp : Mp} {W : List (List Mg)} {T : List Mg} {x : Cl9} (hM : MpOk F G sm E mp) (hE : E.length ≤ 20) (hT : T.Sublist E) (h2 : T.length < 2) (hn : lk mp T = none)
    (k : ∀ mp' y, MpOk F G sm E mp' → (∀ U, (lk mp U).isSome = true → (lk mp' U).isSome = true) → (lk mp' T).isSome = true → WM LOOP (stB S0 T0 W y) (Mst S0 F G sm mp') QF) : WM LOOP (stB S0 T0 (W ++ [T]) x) (Mst S0 F G sm mp) QF := by
  have hlen := hM.len hE
  have hl : ((T.length : Nat) : Int) < 2 := by omega
  have ok : MpOk F G sm E (put mp T (0, none)) := hM.put hT hn ⟨(best_short h2).symm, fun _ => rfl, fun q => absurd h2 q⟩ fun p hp => by
    have := shorter hp
    have hw := mem_ways.mp (show (p.1, p.2) ∈ ways F G T from hp)
    have h3 := lomo p.1 p.2 T
    have h4 := List.length_pos_iff.mpr hw.2.2.1
    have h5 := List.length_pos_iff.mpr hw.2.2.2
    omega
  refine w_wh1 ?_
  unfold stB
  rw [List.map_append]
  simp? [deq_ll, deqs_an, at_m1, pl_lst, pls_tMs, pl_tM, m_at0, fl_best, m_at1, dlk_M, Option.isSome_map, ok_M, pls_tZs, hn, Option.isSome_none, hl, hlen, len_M, dput_M0, m_set]
  have := bA (S0 := S0) (F := F) (G := G) (sm := sm) (T0 := T0) (QF := QF) (mp := put mp T (0, none)) (W := W) (T := T) (x := ((some (SV.val (tM T))), x.2.1, x.2.2.1, x.2.2.2.1, x.2.2.2.2.1, x.2.2.2.2.2.1, x.2.2.2.2.2.2.1, x.2.2.2.2.2.2.2.1, x.2.2.2.2.2.2.2.2)) (by rw [lk_put, if_pos rfl]; rfl) fun y => k _ y ok (fun U hU => by
    rw [lk_put]; split
    · rfl
    · exact hU) (by rw [lk_put, if_pos rfl]; rfl)
  unfold stB at this
  rw [List.map_append] at this
  exact this
/-- the lots that are lacking -/
def lackP (mp : Mp) (T : List Mg) (p : Nat × Nat) : List (List Mg) := [Lo p.1 p.2 T, Mo p.1 p.2 T].filter fun U => !(lk mp U).isSome
def lackL (mp : Mp) (T : List Mg) (ws : List (Nat × Nat)) : List (List Mg) := ws.flatMap (lackP mp T)
theorem lackL_len (mp : Mp) (T : List Mg) (ws : List (Nat × Nat)) : (lackL mp T ws).length ≤ 2 * ws.length := by
  unfold lackL
  induction ws with
  | nil => simp
  | cons p ws ih =>
    rw [List.flatMap_cons, List.length_append, List.length_cons]
    have : (lackP mp T p).length ≤ 2 := List.length_filter_le _ _
    omega
theorem ways_len {F G : Nat} (hF : F ≤ 5) (hG : G ≤ 5) (T : List Mg) : (ways F G T).length ≤ 25 := by
  refine Nat.le_trans (List.length_filter_le _ _) ?_
  unfold prs
  have : ∀ l : List Nat, (l.flatMap fun a => (List.range G).map fun t => (a, t)).length = l.length * G := fun l => by
    induction l with
    | nil => simp
    | cons a l ih => rw [List.flatMap_cons, List.length_append, ih, List.length_map, List.length_range, List.length_cons, Nat.succ_mul]; omega
  rw [this, List.length_range]
  exact Nat.mul_le_mul hF hG
theorem get_of {mp : Mp} {T : List Mg} (h : (lk mp T).isSome = true) (hM : MpOk F G sm E mp) : ∃ w, lk mp T = some (best sm F G T, w) := by
  obtain ⟨v, e⟩ := Option.isSome_iff_exists.mp h
  have := (hM.ok T v e).nu
  exact ⟨v.2, by rw [e, ← this]⟩
theorem e_number {mp : Mp} {T : List Mg} {p : Nat × Nat} (hM : MpOk F G sm E mp) (h1 : (lk mp (Lo p.1 p.2 T)).isSome = true) (h2 : (lk mp (Mo p.1 p.2 T)).isSome = true) :
    f_Mergers_number [.loc S0.length, tM T, wD T p] (Mst S0 F G sm mp) = some (.int ((num sm T.length (best sm F G (Lo p.1 p.2 T)) (best sm F G (Mo p.1 p.2 T)) : Nat) : Int), Mst S0 F G sm mp) := by
  obtain ⟨w1, e1⟩ := get_of h1 hM
  obtain ⟨w2, e2⟩ := get_of h2 hM
  refine WO.eq (w_def [(some (SV.val (.loc S0.length))), (some (SV.val (tM T))), (some (SV.val (wD T p))), none, none] rfl rfl ?_)
  cases sm
  · simp? [b_Mergers_number, m_at0, m_at1, fl_best, wD, dlk_M, e1, e2, mval, ok_M, fl_sum]
    simp only [num, Bool.false_eq_true, if_false, Prod.mk.injEq, and_true, D.int.injEq]
    omega
  · simp? [b_Mergers_number, m_at0, m_at1, fl_best, wD, dlk_M, e1, e2, mval, ok_M, fl_sum]
    simp only [num, if_true, Prod.mk.injEq, and_true, D.int.injEq]
    omega
/-- a long lot: what is lacking goes on top; else it is reckoned -/
theorem bC {mp : Mp} {W : List (List Mg)} {T : List Mg} {x : Cl9} (hs : Sh F G) (hM : MpOk F G sm E mp) (hE : E.length ≤ 20) (hO : Okk F G T) (hS : Set1 F G T) (hT : T.Sublist E) (h2 : ¬ T.length < 2) (hn : lk mp T = none) (hW : W.length < 10000000)
    (k1 : lackL mp T (ways F G T) ≠ [] → ∀ y, WM LOOP (stB S0 T0 (W ++ [T] ++ lackL mp T (ways F G T)) y) (Mst S0 F G sm mp) QF)
    (k2 : lackL mp T (ways F G T) = [] → ∀ v, MvOk F G sm T v → ∀ y, WM LOOP (stB S0 T0 (W ++ [T]) y) (Mst S0 F G sm (put mp T v)) QF) : WM LOOP (stB S0 T0 (W ++ [T]) x) (Mst S0 F G sm mp) QF := by
  have hlen := hM.len hE
  have hl : ¬ ((T.length : Nat) : Int) < 2 := by omega
  have eq := e_questions F G T (Mst S0 F G sm mp) hs.F5 hs.G5 fun a t ha ht => hO.ask ha ht
  have hwl := ways_len hs.F5 hs.G5 T
  refine w_wh1 ?_
  unfold stB
  rw [List.map_append]
  simp? [deq_ll, deqs_an, at_m1, pl_lst, pls_tMs, pl_tM, m_at0, fl_best, fl_first, fl_second, m_at1, dlk_M, Option.isSome_map, ok_M, pls_tZs, hn, Option.isSome_none, hl, hlen, len_M, dput_M0, m_set, eq]
  refine wfoC (l0 := ways F G T) (inj := wD T) (fun pre sl => ∃ a b c d e g, sl = [(some (SV.val (.loc S0.length))), (some (SV.val (tM T0))), (some (SV.own (.lst (List.map (fun T => tM T) W ++ [tM T])))), (some (SV.val (tM T))), (some (SV.val (.lst (List.map (wD T) (ways F G T))))), (some (SV.own (.lst ((lackL mp T pre).map fun T => tM T)))), a, b, c, d, e, g]) rfl ⟨_, _, _, _, _, _, rfl⟩ ?_ ?_
  · rintro pre p post sl e ⟨a, b, c, d, e', g, rfl⟩
    have hp := lackL_len mp T pre
    have hpl : pre.length < 25 := by
      have := congrArg List.length e
      rw [List.length_append, List.length_cons] at this
      omega
    simp? [wD]
    refine wlc (l0 := [Lo p.1 p.2 T, Mo p.1 p.2 T]) (inj := fun T => tM T) (fun U => !(lk mp U).isSome) (fun U => tM U) rfl (le_szC (c := 2) (Nat.le_refl _)) ?_ ?_
    · intro U _
      cases hU : (lk mp U).isSome <;> simp? [m_at0, m_at1, fl_best, dlk_M, Option.isSome_map, ok_M, hU]
    · have hx : (List.map (fun T => tM T) (lackL mp T pre)).length + (List.map (fun U => tM U) ([Lo p.1 p.2 T, Mo p.1 p.2 T].filter fun U => !(lk mp U).isSome)).length ≤ sizeLine := le_szC (c := 1000) (by
        rw [List.length_map, List.length_map]
        have : ([Lo p.1 p.2 T, Mo p.1 p.2 T].filter fun U => !(lk mp U).isSome).length ≤ 2 := List.length_filter_le _ _
        omega)
      rw [List.length_map, List.length_map] at hx
      simp? [hx]
      have hq : lackL mp T (pre ++ [p]) = lackL mp T pre ++ lackP mp T p := by
        rw [lackL, List.flatMap_append]
        simp only [List.flatMap_cons, List.flatMap_nil, List.append_nil]
        rfl
      exact ⟨_, _, _, _, _, _, (by rw [hq, List.map_append]; rfl)⟩
  · rintro sl ⟨a, b, c, d, e', g, rfl⟩
    by_cases hk : lackL mp T (ways F G T) = []
    · have hall : ∀ p ∈ ways F G T, (lk mp (Lo p.1 p.2 T)).isSome = true ∧ (lk mp (Mo p.1 p.2 T)).isSome = true := fun p hp => by
        have h0 : lackP mp T p = [] := List.flatMap_eq_nil_iff.mp hk p hp
        have h1 := List.filter_eq_nil_iff.mp h0
        have g : ∀ U, ¬ (!(lk mp U).isSome) = true → (lk mp U).isSome = true := fun U hU => by cases h : (lk mp U).isSome <;> simp_all
        exact ⟨g _ (h1 (Lo p.1 p.2 T) (by simp)), g _ (h1 (Mo p.1 p.2 T) (by simp))⟩
      obtain ⟨nb, hnb⟩ : ∃ nb : Nat × Nat → Nat, ∀ p, nb p = num sm T.length (best sm F G (Lo p.1 p.2 T)) (best sm F G (Mo p.1 p.2 T)) := ⟨_, fun _ => rfl⟩
      obtain ⟨bs, hbs⟩ : ∃ bs : Nat, bs = best sm F G T := ⟨_, rfl⟩
      have hen : ∀ p ∈ ways F G T, f_Mergers_number [.loc S0.length, tM T, wD T p] (Mst S0 F G sm mp) = some (.int (nb p : Nat), Mst S0 F G sm mp) := fun p hp => by
        rw [hnb]; exact e_number (S0 := S0) (T := T) hM (hall p hp).1 (hall p hp).2
      have hwn : ways F G T ≠ [] := hS.ways_ne h2
      have hleast : ∀ p ∈ ways F G T, (∀ q ∈ ways F G T, nb p ≤ nb q) → nb p = bs := fun p hp hmin => by
        rw [hbs, best_step h2, hnb]
        refine Nat.le_antisymm ?_ (minN_le (List.mem_map.mpr ⟨p, hp, rfl⟩))
        obtain ⟨q, hq, e⟩ := List.mem_map.mp (minN_mem (l := (ways F G T).map fun p => num sm T.length (best sm F G (Lo p.1 p.2 T)) (best sm F G (Mo p.1 p.2 T))) (by simpa using hwn))
        rw [← e, ← hnb, ← hnb]
        exact hmin q hq
      have hfin : ∀ p ∈ ways F G T, nb p = bs → MvOk F G sm T (bs, some p) := fun p hp e => ⟨hbs, fun q => absurd q h2, fun _ => ⟨p, rfl, hp, by rw [← hnb, e, hbs]⟩⟩
      clear hnb hbs hM
      simp? [hk, deq_ll]
      refine wlcA (ways F G T) (inj := wD T) (fun p => .tup [.int (nb p : Nat), tP2 p]) rfl (le_szC (c := 25) hwl) ?_ ?_
      · intro p hp
        simp? [m_at0, fn_number, hen p hp, Option.isNone_none]
        simp? [wD, cut_2]
        rfl
      · have hpl : Pds 60 ((ways F G T).map fun p => D.tup [.int (nb p : Nat), tP2 p]) := pds_map fun p _ => (pd_tup (k := 2) (pds_cons pd_int (pds_cons (pd_tup (pds_cons pd_int (pds_cons pd_int pds_nil))) pds_nil))).mono (by decide)
        have hmm : mmOk ((ways F G T).map fun p => D.tup [.int (nb p : Nat), tP2 p]) := mmOk_map hpl (fun _ _ _ _ => by simp [py, pys, tP2, al_tt, al_cc, al_int, al_nil]) (fun _ _ => by simp)
        obtain ⟨d, hd, hm, hmin⟩ := mm_min (ds := (ways F G T).map fun p => D.tup [.int (nb p : Nat), tP2 p]) (by simpa using hwn) hpl.1
        obtain ⟨p, hp, rfl⟩ := List.mem_map.mp hd
        have hnp : nb p = bs := hleast p hp fun q hq => by
          have := hmin _ (List.mem_map.mpr ⟨q, hq, rfl⟩)
          simp only [py, pys, dlt_intc] at this
          split at this
          · omega
          · have := of_decide_eq_false this
            omega
        rw [hnp] at hm
        have hne' : ¬ List.map (fun p => D.tup [.int (nb p : Nat), tP2 p]) (ways F G T) = [] := by simpa using hwn
        simp? [hmm, hm, hne', m_at0, fl_best, m_at1, ok_M, len_M, hlen, ne_eq, not_false_eq_true]
        have e9 : dput (kvM mp) (tM T) (.tup [.int bs, tP2 p]) = kvM (put mp T (bs, some p)) := dput_M mp T (bs, some p)
        simp? [e9, m_set]
        have := k2 hk (bs, some p) (hfin p hp hnp) ((some (SV.val (tM T))), (some (SV.val (.lst (List.map (wD T) (ways F G T))))), (some (SV.own (.lst []))), a, b, c, d, e', rsv g)
        unfold stB at this
        rw [List.map_append] at this
        exact this
    · have hne : deqs ((lackL mp T (ways F G T)).map fun T => tM T) [] = false := by
        cases h : lackL mp T (ways F G T) with
        | nil => exact absurd h hk
        | cons => rfl
      have hx : (List.map (fun T => tM T) W ++ [tM T]).length + (lackL mp T (ways F G T)).length ≤ sizeLine := le_szC (c := 16000000) (by
        have := lackL_len mp T (ways F G T)
        rw [List.length_append, List.length_map]
        simp
        omega)
      simp? [deq_ll, pls_tMs, hne, hx]
      have := k1 hk ((some (SV.val (tM T))), (some (SV.val (.lst (List.map (wD T) (ways F G T))))), (some (SV.val (.lst (List.map (fun T => tM T) (lackL mp T (ways F G T)))))), a, b, c, d, e', g)
      unfold stB at this
      rw [List.map_append, List.map_append] at this
      exact this
/-- more is known -/
def Mle (mp mp' : Mp) : Prop := ∀ U, (lk mp U).isSome = true → (lk mp' U).isSome = true
/-- a lot is worked off, what is below it stays -/
theorem bD (hs : Sh F G) (hE : E.length ≤ 20) : ∀ (n : Nat) (T : List Mg), T.length ≤ n → Okk F G T → Set1 F G T → T.Sublist E → ∀ (mp : Mp) (W : List (List Mg)) (x : Cl9), MpOk F G sm E mp → W.length + 100 * n < 1000000 →
    (∀ mp' y, MpOk F G sm E mp' → Mle mp mp' → (lk mp' T).isSome = true → WM LOOP (stB S0 T0 W y) (Mst S0 F G sm mp') QF) → WM LOOP (stB S0 T0 (W ++ [T]) x) (Mst S0 F G sm mp) QF := by
  intro n
  induction n using Nat.strongRecOn with
  | _ n IH =>
    intro T hn hO hS hT mp W x hM hW k
    cases hk : (lk mp T).isSome with
    | true => exact bA hk fun y => k mp y hM (fun _ h => h) hk
    | false =>
      have hno : lk mp T = none := by
        cases h : lk mp T with
        | none => rfl
        | some v => rw [h] at hk; cases hk
      by_cases h2 : T.length < 2
      · exact bB hM hE hT h2 hno k
      -- all lots known: it is reckoned
      have fin : ∀ mp' y, MpOk F G sm E mp' → Mle mp mp' → (∀ p ∈ ways F G T, (lk mp' (Lo p.1 p.2 T)).isSome = true ∧ (lk mp' (Mo p.1 p.2 T)).isSome = true) → WM LOOP (stB S0 T0 (W ++ [T]) y) (Mst S0 F G sm mp') QF := fun mp' y hM' hle hall => by
        cases hk' : (lk mp' T).isSome with
        | true => exact bA hk' fun y => k mp' y hM' hle hk'
        | false =>
          have hno' : lk mp' T = none := by
            cases h : lk mp' T with
            | none => rfl
            | some v => rw [h] at hk'; cases hk'
          have hl0 : lackL mp' T (ways F G T) = [] := List.flatMap_eq_nil_iff.mpr fun p hp => List.filter_eq_nil_iff.mpr fun U hU => by
            have := hall p hp
            rcases List.mem_cons.mp hU with rfl | hU
            · simp [this.1]
            · have : U = Mo p.1 p.2 T := by simpa using hU
              subst this
              simp [(hall p hp).2]
          refine bC hs hM' hE hO hS hT h2 hno' (by omega) (fun q => absurd hl0 q) fun _ v hv y => ?_
          have hput := hM'.put hT hno' hv hall
          refine bA (by rw [lk_put, if_pos rfl]; rfl) fun y => k _ y hput (fun U hU => ?_) (by rw [lk_put, if_pos rfl]; rfl)
          rw [lk_put]
          split
          · rfl
          · exact hle U hU
      by_cases hl : lackL mp T (ways F G T) = []
      · refine fin mp x hM (fun _ h => h) fun p hp => ?_
        have h0 : lackP mp T p = [] := List.flatMap_eq_nil_iff.mp hl p hp
        have h1 := List.filter_eq_nil_iff.mp h0
        have g : ∀ U, ¬ (!(lk mp U).isSome) = true → (lk mp U).isSome = true := fun U hU => by cases h : (lk mp U).isSome <;> simp_all
        exact ⟨g _ (h1 _ (by simp)), g _ (h1 _ (by simp))⟩
      refine bC hs hM hE hO hS hT h2 hno (by omega) (fun _ y => ?_) fun q => absurd q hl
      have hwl := ways_len hs.F5 hs.G5 T
      have hll := lackL_len mp T (ways F G T)
      have hlot : ∀ U ∈ lackL mp T (ways F G T), U.length < T.length ∧ ∃ f : Mg → Bool, U = T.filter f := fun U hU => by
        obtain ⟨p, hp, hU⟩ := List.mem_flatMap.mp hU
        have hsh := shorter (show (p.1, p.2) ∈ ways F G T from hp)
        rcases List.mem_cons.mp (List.mem_filter.mp hU).1 with rfl | hU
        · exact ⟨hsh.1, _, rfl⟩
        · have : U = Mo p.1 p.2 T := by simpa using hU
          subst this
          exact ⟨hsh.2, _, rfl⟩
      -- the lots on top, from the last
      have go : ∀ (L : List (List Mg)), L.length ≤ 50 → (∀ U ∈ L, U.length < T.length ∧ ∃ f : Mg → Bool, U = T.filter f) → ∀ mp1 y, MpOk F G sm E mp1 → Mle mp mp1 →
          (∀ mp2 y2, MpOk F G sm E mp2 → Mle mp mp2 → (∀ U, (lk mp1 U).isSome = true ∨ U ∈ L → (lk mp2 U).isSome = true) → WM LOOP (stB S0 T0 (W ++ [T]) y2) (Mst S0 F G sm mp2) QF) →
          WM LOOP (stB S0 T0 (W ++ [T] ++ L) y) (Mst S0 F G sm mp1) QF := by
        intro L
        generalize hlen : L.length = m
        induction m generalizing L with
        | zero =>
          intro _ _ mp1 y hM1 hle1 kk
          have : L = [] := List.length_eq_zero_iff.mp hlen
          subst this
          rw [List.append_nil]
          exact kk mp1 y hM1 hle1 fun U hU => hU.elim id fun h => by cases h
        | succ m ih =>
          intro hm hL mp1 y hM1 hle1 kk
          rcases List.eq_nil_or_concat L with rfl | ⟨L', U, rfl⟩
          · simp at hlen
          rw [List.concat_eq_append] at *
          have hl' : L'.length = m := by simpa using hlen
          obtain ⟨hUl, f, rfl⟩ := hL U (by simp)
          rw [← List.append_assoc]
          refine IH (n - 1) (by omega) (T.filter f) (by omega) (hO.filter f) (hS.filter f) (List.filter_sublist.trans hT) mp1 (W ++ [T] ++ L') y hM1 (by simp; omega) fun mp2 y2 hM2 hle2 hU2 => ?_
          refine ih L' hl' (by omega) (fun Z hZ => hL Z (List.mem_append_left _ hZ)) mp2 y2 hM2 (fun Z hZ => hle2 Z (hle1 Z hZ)) fun mp3 y3 hM3 hle3 hall3 => ?_
          refine kk mp3 y3 hM3 hle3 fun Z hZ => ?_
          rcases hZ with hZ | hZ
          · exact hall3 Z (.inl (hle2 Z hZ))
          · rcases List.mem_append.mp hZ with hZ | hZ
            · exact hall3 Z (.inr hZ)
            · have : Z = T.filter f := by simpa using hZ
              subst this
              exact hall3 _ (.inl hU2)
      refine go _ (by omega) hlot mp y hM (fun _ h => h) fun mp2 y2 hM2 hle2 hall2 => fin mp2 y2 hM2 hle2 fun p hp => ?_
      have g : ∀ U, U ∈ [Lo p.1 p.2 T, Mo p.1 p.2 T] → (lk mp2 U).isSome = true := fun U hU => by
        cases h : (lk mp U).isSome with
        | true => exact hle2 U h
        | false => exact hall2 U (.inr (List.mem_flatMap.mpr ⟨p, hp, List.mem_filter.mpr ⟨hU, by simp [h]⟩⟩))
      exact ⟨g _ (by simp), g _ (by simp)⟩
end
end K37

open PySem PS

namespace K37
open PySem PS
section
variable {S0 : Sto} {F G : Nat} {sm : Bool} {E : List Mg}
theorem best_spec (hs : Sh F G) (hE : E.length ≤ 20) {T : List Mg} (hO : Okk F G T) (hS : Set1 F G T) (hT : T.Sublist E) {mp : Mp} (hM : MpOk F G sm E mp) :
    WO (f_Mergers_best [.loc S0.length, tM T] (Mst S0 F G sm mp)) fun p => p.1 = .int (best sm F G T : Nat) ∧ ∃ mp', p.2 = Mst S0 F G sm mp' ∧ MpOk F G sm E mp' ∧ (lk mp' T).isSome = true := by
  refine w_def [(some (SV.val (.loc S0.length))), (some (SV.val (tM T))), none, none, none, none, none, none, none, none, none, none] rfl rfl ?_
  simp? [b_Mergers_best]
  have := bD (S0 := S0) (T0 := T) (sm := sm) hs hE T.length T (Nat.le_refl _) hO hS hT mp [] (none, none, none, none, none, none, none, none, none) hM (by
      have := hT.length_le
      simp only [List.length_nil]; omega)
    (QF := fun fl sl' S' => WQ fl (WM (sRet (m2 gIx (oD (m2 gIx (oD (mFl "Mergers" "own_best" (pk 0))) (pk 1))) (oD (cs (.int 0))))) sl' S' fun fl x S' => S'.length = (Mst S0 F G sm mp).length ∧ WR fl fun d => (fun p : D × Sto => p.1 = .int (best sm F G T : Nat) ∧ ∃ mp', p.2 = Mst S0 F G sm mp' ∧ MpOk F G sm E mp' ∧ (lk mp' T).isSome = true) (d, S'))
      (S'.length = (Mst S0 F G sm mp).length ∧ WR fl fun d => (fun p : D × Sto => p.1 = .int (best sm F G T : Nat) ∧ ∃ mp', p.2 = Mst S0 F G sm mp' ∧ MpOk F G sm E mp' ∧ (lk mp' T).isSome = true) (d, S')))
    (fun mp' y hM' hle hk => by
      obtain ⟨w, e⟩ := get_of hk hM'
      refine w_wh1 ?_
      unfold stB
      simp? [deq_ll, m_at0, m_at1, fl_best, dlk_M, ok_M, e, mval]
      exact ⟨m_len, mp', rfl, hM', hk⟩)
  exact this
theorem tree_spec (hE : E.length ≤ 20) {mp : Mp} (hM : MpOk F G sm E mp) : ∀ (n : Nat) (T : List Mg), T.length ≤ n → T ≠ [] → Okk F G T → (lk mp T).isSome = true →
    ∃ p, Ok F G p T ∧ f_Mergers_tree (n + 1) [.loc S0.length, tM T] (Mst S0 F G sm mp) = some (dP p, Mst S0 F G sm mp) := by
  intro n
  induction n with
  | zero =>
    intro T hn hne
    exact absurd (List.length_eq_zero_iff.mp (by omega)) hne
  | succ n ih =>
    intro T hn hne hO hk
    obtain ⟨v, e⟩ := Option.isSome_iff_exists.mp hk
    have hv := hM.ok T v e
    by_cases h2 : T.length < 2
    · have h1 : T.length = 1 := by have := List.length_pos_iff.mpr hne; omega
      obtain ⟨m, rfl⟩ := at_list h1
      refine ⟨.lf m, rfl, WO.eq (w_def [(some (SV.val (.loc S0.length))), (some (SV.val (tM [m]))), none, none, none] rfl rfl ?_)⟩
      simp? [b_Mergers_tree, m_at0, m_at1, fl_best, dlk_M, ok_M, e, mval, hv.sh h2, dP]
    · obtain ⟨p, hp1, hp2, hp3⟩ := hv.wy h2
      have hw := mem_ways.mp (show (p.1, p.2) ∈ ways F G T from hp2)
      have hsh := shorter (show (p.1, p.2) ∈ ways F G T from hp2)
      obtain ⟨k1, k2⟩ := hM.cl T v e p hp2
      obtain ⟨q1, o1, e1⟩ := ih (Lo p.1 p.2 T) (by omega) hw.2.2.1 (hO.filter _) k1
      obtain ⟨q2, o2, e2⟩ := ih (Mo p.1 p.2 T) (by omega) hw.2.2.2 (hO.filter _) k2
      have ep := e_parted T p.1 p.2 (Mst S0 F G sm mp) (hO.ask hw.1 hw.2.1)
      refine ⟨.nd p.1 p.2 q1 q2, ⟨hw.1, hw.2.1, hw.2.2.1, hw.2.2.2, o1, o2⟩, WO.eq (w_def [(some (SV.val (.loc S0.length))), (some (SV.val (tM T))), none, none, none] rfl rfl ?_)⟩
      simp? [b_Mergers_tree, m_at0, m_at1, fl_best, dlk_M, ok_M, e, mval, hp1, tP2, ep, e1, e2, fn_tree, Option.isNone_none, dP]
end
theorem cl_tZ (m : Mg) : Cl (tZ m) := cl_tup (cls_map fun _ _ => cl_int)
theorem cl_dP : ∀ p, Cl (dP p)
  | .lf m => cl_tup (cls_cons cl_str (cls_cons (cl_tZ m) cls_nil))
  | .nd a t l r => cl_tup (cls_cons cl_str (cls_cons cl_int (cls_cons cl_int (cls_cons (cl_dP l) (cls_cons (cl_dP r) cls_nil)))))
theorem mp_nil {F G : Nat} {sm : Bool} {E : List Mg} : MpOk F G sm E [] := ⟨fun _ _ h => (by cases h), fun _ _ h => (by cases h), (by simp), fun _ h => (by cases h)⟩
theorem e_told {F G : Nat} (hs : Sh F G) (sm : Bool) {S : Sto} (hS : ClS S) : ∃ p, Ok F G p (every F G) ∧ f_told_comparisons [.int F, .int G, .bl sm] S = some (.tup [.int (best sm F G (every F G) : Nat), dP p], S) := by
  have e2 := e_told_merges F G S hs.fg (by have := hs.f0; omega)
  have hb := best_spec (S0 := S) (sm := sm) hs (every_20 hs.fg) (every_okk hs.fg) (every_set F G) (List.Sublist.refl _) mp_nil
  obtain ⟨⟨d1, S1⟩, eb, h1, mp', h2, hM, hk⟩ := hb
  dsimp only at h1 h2
  subst h1 h2
  obtain ⟨p, hp, et⟩ := tree_spec (S0 := S) (every_20 hs.fg) hM 39 (every F G) (by have := every_20 hs.fg; omega) (every_ne F G) (every_okk hs.fg) hk
  refine ⟨p, hp, ?_⟩
  have ei := e_init (F := F) (G := G) (sm := sm) (S0 := S)
  clear hp hk hM
  revert e2 eb et
  generalize every F G = T
  intro e2 eb et
  refine WO.eq (w_defR [(some (SV.val (.int F))), (some (SV.val (.int G))), (some (SV.val (.bl sm))), none, none] rfl rfl ?_)
  simp? [b_told_comparisons, e2, ei]
  simp? [m_at0, fn_best, fn_tree, eb, et, Option.isNone_none]
  unfold Mst
  rw [rel_app hS (cl_tup (cls_cons cl_int (cls_cons (cl_dP p) cls_nil)))]
  exact w_some.mpr rfl
theorem e_two {F G : Nat} (hs : Sh F G) {S : Sto} (hS : ClS S) : (∃ p, Ok F G p (every F G) ∧ f_fewest_comparisons [.int F, .int G] S = some (.tup [.int (best false F G (every F G) : Nat), dP p], S)) ∧
    ∃ p, Ok F G p (every F G) ∧ f_least_comparisons [.int F, .int G] S = some (.tup [.int (best true F G (every F G) : Nat), dP p], S) := by
  have ec := e_check_both F G S hs.F5 hs.G5 hs.fg
  obtain ⟨p, hp, e1⟩ := e_told hs false hS
  obtain ⟨q, hq, e2⟩ := e_told hs true hS
  refine ⟨⟨p, hp, ?_⟩, q, hq, ?_⟩
  · clear hp hq e2
    revert e1
    generalize every F G = T
    intro e1
    refine WO.eq (w_def [(some (SV.val (.int F))), (some (SV.val (.int G)))] rfl rfl ?_)
    simp? [b_fewest_comparisons, ec, e1]
  · clear hp hq e1
    revert e2
    generalize every F G = T
    intro e2
    refine WO.eq (w_def [(some (SV.val (.int F))), (some (SV.val (.int G)))] rfl rfl ?_)
    simp? [b_least_comparisons, ec, e2]
theorem maxN_int : ∀ {l : List Nat}, l ≠ [] → maxN' (l.map fun x : Nat => (x : Int)) = (maxN l : Nat) := by
  intro l h
  have hm := maxN'_mem (l := l.map fun x : Nat => (x : Int)) (by simpa using h)
  obtain ⟨x, hx, e⟩ := List.mem_map.mp hm
  have h1 := le_maxN hx
  have h2 : maxN l ≤ x := maxN_le fun y hy => by
    have := le_maxN' (List.mem_map.mpr ⟨y, hy, rfl⟩ : ((y : Nat) : Int) ∈ l.map fun x : Nat => (x : Int))
    omega
  omega
theorem sum_int : ∀ l : List Nat, (l.map fun x : Nat => (x : Int)).sum = (l.sum : Nat)
  | [] => rfl
  | x :: l => by rw [List.map_cons, List.sum_cons, List.sum_cons, sum_int l]; omega
theorem e_show {F G : Nat} (hs : Sh F G) (sm : Bool) {S : Sto} (hS : ClS S) {p : Pl} (hp : Ok F G p (every F G)) :
    f_does_show_merging [.int F, .int G, .tup [.int (cost sm p (every F G) : Nat), dP p], .bl sm] S = some (.bl (decide (cost sm p (every F G) = best sm F G (every F G))), S) := by
  have ec := e_check_both F G S hs.F5 hs.G5 hs.fg
  obtain ⟨q, _, et⟩ := e_told hs sm hS
  have hd := Ok.dep40 hs.fg hp
  have em := e_told_merges F G S hs.fg (by have := hs.f0; omega)
  have ed := e_does_merge F G hs.F5 hs.G5 40 p (every F G) S (by omega) (hp.wf (every_okk hs.fg)) (every_okk hs.fg)
  rw [(okB_ok (every_set F G).sh).mpr hp] at ed
  have eco : ∀ m ∈ every F G, f_comparisons_to [dP p, tZ m] S = some (.tup ((trail p m).map qD), S) := fun m hm => e_comparisons_to hp.inn (by omega) (mem_every.mp hm) (by have := hs.fg; omega) S
  have hl := every_20 hs.fg
  have hne := every_ne F G
  have hmx : ((every F G).map fun m => (plen p m : Int)) = ((every F G).map (plen p)).map fun x : Nat => (x : Int) := by rw [List.map_map]; rfl
  have hb : (if sm then ((every F G).map fun m => (plen p m : Int)).sum else maxN' ((every F G).map fun m => (plen p m : Int))) = (cost sm p (every F G) : Nat) := by
    cases sm
    · rw [if_neg (by decide), hmx, maxN_int (by simpa using hne), cost_max hp]
    · rw [if_pos rfl, hmx, sum_int, cost_sum hp]
  clear hp
  revert et em ed eco hl hne hmx hb
  generalize every F G = T
  generalize hc : cost sm p T = c
  generalize hbb : best sm F G T = b
  intro et em ed eco hl hne hmx hb
  refine WO.eq (w_def [(some (SV.val (.int F))), (some (SV.val (.int G))), (some (SV.val (.tup [.int (c : Nat), dP p]))), (some (SV.val (.bl sm))), none, none, none] rfl rfl ?_)
  by_cases h : c = b
  · subst h
    simp? [b_does_show_merging, ec, et, em, ed, pl_dP, e_is_integer, PyData.isTuple, py]
    refine wlcA T (inj := fun m => tZ m) (fun m => .int ((plen p m : Nat) : Int)) rfl (le_szC (c := 20) hl) ?_ ?_
    · intro m hm
      simp? [eco m hm, trail_len]
    · have hint : intsOf (T.map fun m => D.int ((plen p m : Nat) : Int)) = some (T.map fun m => ((plen p m : Nat) : Int)) := ints_map T
      have hmm : mmOk (T.map fun m => D.int ((plen p m : Nat) : Int)) := by
        have := mmOk_ints (T.map fun m => ((plen p m : Nat) : Int))
        rw [List.map_map] at this
        exact this
      have hmd : mmD PySem.W.maxD (T.map fun m => D.int ((plen p m : Nat) : Int)) = .int (maxN' (T.map fun m => ((plen p m : Nat) : Int))) := by
        have := mm_maxI (l := T.map fun m => ((plen p m : Nat) : Int)) (by simpa using hne)
        rw [List.map_map] at this
        exact this
      have hne2 : T.map (fun m => D.int ((plen p m : Nat) : Int)) ≠ [] := by simpa using hne
      cases sm
      · simp only [Bool.false_eq_true, if_false] at hb
        simp? [hmm, hmd, hne2, hb, not_false_eq_true, ne_eq]
      · simp only [if_true] at hb
        simp? [hint, hb]
  · have h2 : ¬ ((c : Int) = b) := by omega
    simp? [b_does_show_merging, ec, et, em, ed, pl_dP, e_is_integer, PyData.isTuple, py, h, h2]
theorem e_shows {F G : Nat} (hs : Sh F G) {S : Sto} (hS : ClS S) {p : Pl} (hp : Ok F G p (every F G)) :
    f_shows_fewest_comparisons [.int F, .int G, .tup [.int (cost false p (every F G) : Nat), dP p]] S = some (.bl (decide (cost false p (every F G) = best false F G (every F G))), S) ∧
    f_shows_least_comparisons [.int F, .int G, .tup [.int (cost true p (every F G) : Nat), dP p]] S = some (.bl (decide (cost true p (every F G) = best true F G (every F G))), S) := by
  have e1 := e_show hs false hS hp
  have e2 := e_show hs true hS hp
  clear hp
  constructor
  · revert e1
    generalize cost false p (every F G) = c
    generalize best false F G (every F G) = b
    intro e1
    refine WO.eq (w_def [(some (SV.val (.int F))), (some (SV.val (.int G))), (some (SV.val (.tup [.int (c : Nat), dP p])))] rfl rfl ?_)
    simp? [b_shows_fewest_comparisons, e1]
  · revert e2
    generalize cost true p (every F G) = c
    generalize best true F G (every F G) = b
    intro e2
    refine WO.eq (w_def [(some (SV.val (.int F))), (some (SV.val (.int G))), (some (SV.val (.tup [.int (c : Nat), dP p])))] rfl rfl ?_)
    simp? [b_shows_least_comparisons, e2]
end K37

open PySem PS

namespace K37
open PySem PS
theorem take_spec {S : Sto} {n t : Nat} {u : Int} (hP : Pot n t S) (ht : t < 1000000) (hu : 0 < u) (hu2 : u < 1000000) : WO (f__law_take [.loc n, .int u] S) fun p => ∃ v : Int, p.1 = .int v ∧ 0 ≤ v ∧ v < u ∧ Drw n (t + 1) S p.2 := by
  obtain ⟨a, b, c, hS, hb, hc0, hc⟩ := hP.at_
  have hn : n < S.length := (List.getElem?_eq_some_iff.mp hS).1
  have Be : Bn 40 (c + 1) := .of (by omega) (by omega)
  have Bb : Bn 64 b := .of (by omega) (by omega)
  obtain ⟨p, hp, hp0, hpB⟩ := prime5 (p0 := 2147483647) (p1 := 2147483629) (p2 := 2147483587) (p3 := 2147483579) (p4 := 2147483563) (x := c + 1) (by decide) (by decide)
  refine w_def [(some (SV.val (.loc n))), (some (SV.val (.int u))), none, none, none] rfl rfl ?_
  simp? [b__law_take, hS, List.getElem?_set_self hn, hp]
  refine WI_d (fun ha => ?_) fun ha => ?_
  · refine ⟨hu, ⟨hu, Nat.lt_of_le_of_lt (Bn.log (k := 40) (.of (by omega) (by omega))) (by decide)⟩, by simp, _, rfl, Int.emod_nonneg _ (by omega), Int.emod_lt_of_pos _ hu, ?_⟩
    exact Drw.set (hP.mono (by omega)) hb ⟨hc0, by omega⟩
  · have hx := Bn.add (Bn.add (k := 120) (Bb.mono (by decide)) (((Bn.of (k := 40) (x := 90546) (by decide) (by decide)).mul Be).mul Be)) (Bn.of (k := 121) (x := 16) (by decide) (by decide))
    have hr := Bn.mod (x := (b + 90546 * (c + 1) * (c + 1) + 16) ^ Int.toNat 3) hp0 hpB
    refine ⟨Bn.lg (k := 40) (.of (by decide) (by decide)) Be, Bn.lg ((Bn.of (k := 40) (by decide) (by decide)).mul Be) Be, (by have := hx.bits; omega), hp0, Bn.lg (k := 40) (.of (by decide) (by decide)) Be, Bn.lg hr (Bn.add (k := 80) ((Bn.mod (k := 40) (by decide) (.of (by decide) (by decide))).mono (by decide)) ((Bn.of (k := 40) (by decide) (by decide)).mul Be)), (by decide), hu, (by simp), _, rfl, Int.emod_nonneg _ (by omega), Int.emod_lt_of_pos _ hu, ?_⟩
    exact Drw.set (hP.mono (by omega)) hb ⟨by omega, by omega⟩
end K37

open PySem PS

namespace K37
open PySem PS
theorem of_spec {S : Sto} {n t : Nat} {ds : List D} (hP : Pot n t S) (ht : t < 1000000) (hd : ds ≠ []) (hl : ds.length < 1000000) (hv : ∀ d ∈ ds, ∀ S, vwD S d = some d) : WO (f__law_of [.loc n, .lst ds] S) fun p => p.1 ∈ ds ∧ Drw n (t + 1) S p.2 := by
  have h0 := List.length_pos_iff.mpr hd
  refine w_def [(some (SV.val (.loc n))), (some (SV.val (.lst ds)))] rfl rfl ?_
  simp? [b__law_of]
  refine WO.mono (take_spec hP ht (by omega) (by omega)) ?_
  rintro ⟨d, S'⟩ ⟨v, rfl, hv0, hv1, hD⟩
  simp? [w_nx]
  rw [at_i hv0 hv1]
  simp? [w_nx]
  exact ⟨hD.ln, List.getElem_mem _, hD⟩
theorem eraseIdx_perm {α : Type} : ∀ {l : List α} {i : Nat} (h : i < l.length), (l[i] :: l.eraseIdx i).Perm l
  | a :: l, 0, _ => .refl _
  | a :: l, i + 1, h => by
    have := eraseIdx_perm (l := l) (i := i) (by simpa using h)
    rw [List.getElem_cons_succ, List.eraseIdx_cons_succ]
    exact (List.Perm.swap _ _ _).trans (this.cons a)
theorem some_spec {S : Sto} {n t : Nat} {ds : List D} {k : Nat} (hP : Pot n t S) (ht : t + k < 1000000) (hk : k ≤ ds.length) (hl : ds.length < 1000000) : WO (f__law_some [.loc n, .lst ds, .int (k : Nat)] S) fun p => ∃ es rest, p.1 = .lst es ∧ es.length = k ∧ (es ++ rest).Perm ds ∧ Drw n (t + k) S p.2 := by
  refine w_def [(some (SV.val (.loc n))), (some (SV.val (.lst ds))), (some (SV.val (.int k))), none, none, none] rfl rfl ?_
  simp? [b__law_some]
  rw [w_r1 (by omega)]
  refine wfo (l0 := List.range k) (inj := fun i => .int ((i : Nat) : Int)) (fun pre sl S' => Drw n (t + pre.length) S S' ∧ ∃ left found y, sl = [(some (SV.val (.loc n))), (some (SV.val (.lst ds))), (some (SV.val (.int k))), y, (some (SV.own (.lst left))), (some (SV.own (.lst found)))] ∧ found.length = pre.length ∧ (found ++ left).Perm ds) rfl ⟨Drw.refl hP, ds, [], _, rfl, rfl, .refl _⟩ ?_ ?_
  · rintro pre i post sl S' e ⟨hD, left, found, y, rfl, hf, hp⟩
    have hpre : pre.length < k := by
      have := congrArg List.length e
      simp at this; omega
    have hll := hp.length_eq
    rw [List.length_append] at hll
    simp? [w_nx]
    refine WO.mono (take_spec hD.po (by omega) (by omega) (by omega)) ?_
    rintro ⟨d, S2⟩ ⟨v, rfl, hv0, hv1, hD2⟩
    have hvn : v.toNat < left.length := by omega
    simp? [ixn_i hv0 hv1, List.getElem?_eq_getElem hvn]
    refine ⟨bdC (c := 1000000) hv0 (by omega), lt_szC (c := 1000000) (by omega), (hD.trans hD2).mono (by simp; omega), _, _, _, rfl, by simp [hf], ?_⟩
    rw [List.append_assoc]
    exact ((eraseIdx_perm hvn).append_left found).trans hp
  · rintro sl S' ⟨hD, left, found, y, rfl, hf, hp⟩
    rw [List.length_range] at hD hf
    simp? [w_nx]
    exact ⟨hD.ln, found, left, rfl, hf, hp, hD⟩
theorem cells_spec {S : Sto} (ns : List Int) (hl : ns.length ≤ 63) : ∃ k, (k = 1 ∨ k = 2) ∧ f__law_cells [.lst (ns.map .int), .int 2] S = some (.lst ((List.range k).map fun i => .int ((i : Nat) : Int)), S) := by
  have key : ∀ j : Int, ∀ k : Nat, k ≤ 63 → j = k → rgOkB 0 j = true ∧ rng 0 (j - 0).toNat = (List.range k).map fun i => .int ((i : Nat) : Int) := fun j k hk e => by
    subst e
    refine ⟨?_, by rw [show ((k : Int) - 0).toNat = k by omega]; exact rng0 k⟩
    unfold rgOkB
    rw [bdC (c := 0) (by omega) (by omega) (by decide), bdC (c := 63) (by omega) (by omega) (by decide)]
    simp only [Bool.and_self, Bool.true_and, decide_eq_true_eq]
    omega
  obtain ⟨k, hk, e1⟩ : ∃ k : Nat, (k = 1 ∨ k = 2) ∧ (if (1 : Int) < (if ((ns.length : Nat) : Int) < 2 then ((ns.length : Nat) : Int) else 2) then (if ((ns.length : Nat) : Int) < 2 then ((ns.length : Nat) : Int) else 2) else 1) = k := by
    by_cases h : 2 ≤ ns.length
    · refine ⟨2, .inr rfl, ?_⟩
      rw [if_neg (show ¬ ((ns.length : Nat) : Int) < 2 by omega), if_pos (by decide)]; rfl
    · refine ⟨1, .inl rfl, ?_⟩
      rw [if_pos (show ((ns.length : Nat) : Int) < 2 by omega), if_neg (by omega)]; rfl
  obtain ⟨h1, h2⟩ := key _ k (by omega) e1
  refine ⟨k, hk, WO.eq (w_def [(some (SV.val (.lst (ns.map .int)))), (some (SV.val (.int 2)))] rfl rfl ?_)⟩
  simp? [b__law_cells, gt_iff_lt]
  rw [h2]
  exact ⟨h1, rfl⟩
theorem bn300 : Bn 1000 (((10 : Int) ^ Int.toNat 60) ^ Int.toNat 5) := by
  unfold Bn
  decide +kernel
theorem p300 : (0 : Int) < ((10 : Int) ^ Int.toNat 60) ^ Int.toNat 5 := by decide +kernel
theorem pot_spec {S : Sto} (hS : ClS S) (ns : List Int) (hl : ns.length ≤ 63) (i : Nat) (hi : i < 2) : WO (f__law_pot [.lst (ns.map .int), .int (i : Nat)] S) fun p => p.1 = .loc S.length ∧ ∃ X, p.2 = S ++ [X] ∧ Pot S.length 0 (S ++ [X]) := by
  refine w_defK [(some (SV.val (.lst (ns.map .int)))), (some (SV.val (.int (i : Nat)))), none, none, none] rfl rfl ?_
  simp? [b__law_pot]
  by_cases h : i < ns.length
  · simp? [Int.ofNat_lt, h, at_map, at_n h]
    generalize ns[i] = cell
    have h01 : ∀ (c : Prop) [Decidable c], Bn 1 (if c then (1 : Int) else 0) := fun c _ => by
      unfold Bn; split <;> decide
    refine ⟨by decide, by decide +kernel, p300, by decide, Bn.lg (Bn.mod p300 bn300) (h01 _), Bn.lg (Bn.mod (k := 62) (by decide) (.of (by decide) (by decide))) (.of (k := 62) (by decide) (by decide)), Bn.lg (.of (k := 62) (by decide) (by decide)) (.of (k := 62) (by omega) (by omega)), Bn.lg ((Bn.of (k := 62) (by decide) (by decide)).mul (.of (k := 62) (x := (i : Int)) (by omega) (by omega))) (.of (k := 62) (by omega) (by omega)), _, rfl, ⟨⟨_, _, _, List.getElem?_concat_length, ?_, by omega, by omega⟩, ?_⟩⟩
    · have hm : ∀ x : Int, 0 ≤ x % 2305843009213693921 ∧ x % 2305843009213693921 < 2 ^ 64 := fun x => by omega
      exact hm _
    · refine clS_app hS fun ob ho => ?_
      have : ob = _ := List.mem_singleton.mp ho
      subst this
      exact clO_lst (cls_cons cl_int (cls_cons cl_int (cls_cons cl_int cls_nil)))
  · have e2 : mSl.cutV' (ns.map D.int) none (some 1) = (ns.take 1).map D.int := by
      rw [show (1 : Int) = ((1 : Nat) : Int) from rfl, cut_to, List.map_take]
    simp? [Int.ofNat_lt, h, e2, ints_map1]
    refine ⟨Bn.lg (.of (k := 62) (by decide) (by decide)) (.of (k := 62) (by omega) (by omega)), ?_⟩
    generalize (ns.take 1).sum % 1000003 + 263426 * (i : Int) + 74032 = cell
    have h01 : ∀ (c : Prop) [Decidable c], Bn 1 (if c then (1 : Int) else 0) := fun c _ => by
      unfold Bn; split <;> decide
    refine ⟨by decide, by decide +kernel, p300, by decide, Bn.lg (Bn.mod p300 bn300) (h01 _), Bn.lg (Bn.mod (k := 62) (by decide) (.of (by decide) (by decide))) (.of (k := 62) (by decide) (by decide)), Bn.lg (.of (k := 62) (by decide) (by decide)) (.of (k := 62) (by omega) (by omega)), Bn.lg ((Bn.of (k := 62) (by decide) (by decide)).mul (.of (k := 62) (x := (i : Int)) (by omega) (by omega))) (.of (k := 62) (by omega) (by omega)), _, rfl, ⟨⟨_, _, _, List.getElem?_concat_length, ?_, by omega, by omega⟩, ?_⟩⟩
    · have hm : ∀ x : Int, 0 ≤ x % 2305843009213693921 ∧ x % 2305843009213693921 < 2 ^ 64 := fun x => by omega
      exact hm _
    · refine clS_app hS fun ob ho => ?_
      have : ob = _ := List.mem_singleton.mp ho
      subst this
      exact clO_lst (cls_cons cl_int (cls_cons cl_int (cls_cons cl_int cls_nil)))
end K37

open PySem PS

namespace K37
open PySem PS
theorem cnt_Z (m : Mg) (r : Int) : ((m.map D.int).countP fun z => deq z (.int r)) = m.count r := cnt_map (f := D.int) deq_int m r
theorem lsS_vw {b : Bool} {L : List Mg} {S : Sto} : vwC S (some (lsS b L)) = some (.lst (L.map fun m => tZ m)) := by cases b <;> rfl
theorem e_law_merges (F G : Nat) (S : Sto) (h : F + G ≤ 6) (h1 : 0 < F + G) : f__law_merges [.int F, .int G] S = some (.lst ((every F G).map fun m => tZ m), S) := by
  refine WO.eq (w_def [(some (SV.val (.int F))), (some (SV.val (.int G))), none, none, none, none] rfl rfl ?_)
  simp? [b__law_merges]
  rw [← Int.natCast_add, w_r1 (by omega)]
  refine wfoC (l0 := List.range (F + G)) (inj := fun i => .int ((i : Nat) : Int)) (fun pre sl => ∃ b x y z, sl = [(some (SV.val (.int F))), (some (SV.val (.int G))), lsS b (bld F G pre.length), x, y, z]) rfl ⟨true, none, none, none, rfl⟩ ?_ ?_
  · rintro pre i post sl e ⟨b, x, y, z, rfl⟩
    have hp : pre.length < F + G := by
      have := congrArg List.length e
      simp at this; omega
    have hb : (bld F G pre.length).length ≤ 32 := Nat.le_trans (bld_len F G _) (Nat.le_trans (Nat.pow_le_pow_right (by decide) (show pre.length ≤ 5 by omega)) (by decide))
    cases b <;> simp? [lsS, Bool.false_eq_true]
    all_goals
      refine wfoC (l0 := bld F G pre.length) (inj := fun m => tZ m) (fun pr sl => ∃ z, sl = [(some (SV.val (.int F))), (some (SV.val (.int G))), (some (SV.val (.lst ((bld F G pre.length).map fun m => tZ m)))), (some (SV.val (.int (i : Nat)))), (some (SV.own (.lst ((pr.flatMap (stp F G)).map fun m => tZ m)))), z]) rfl ⟨_, rfl⟩ ?_ ?_
      · rintro pr m post' sl e' ⟨z, rfl⟩
        have hpr : pr.length < 32 := by
          have := congrArg List.length e'
          rw [List.length_append, List.length_cons] at this; omega
        have hfl := flat_len (stp F G) (stp_len F G) pr
        have hml : m.length ≤ 6 := by
          have := bld_el F G _ m (by rw [e']; simp)
          omega
        have z1 : (pr.flatMap (stp F G)).length + 1 ≤ sizeLine := le_szC (c := 100) (by omega)
        have z2 : (pr.flatMap (stp F G)).length ≤ sizeLine := le_szC (c := 100) (by omega)
        have z3 : (pr.flatMap (stp F G)).length + 1 + 1 ≤ sizeLine := le_szC (c := 100) (by omega)
        have z4 : m.length + 1 ≤ sizeLine := le_szC (c := 100) (by omega)
        by_cases c0 : m.count 0 < F <;> by_cases c1 : m.count 1 < G <;> simp? [cnt_Z, Int.ofNat_lt, c0, c1, List.length_append, Nat.add_zero, z1, z2, z3, z4]
        all_goals
          refine ⟨(some (SV.val (tZ m))), ?_⟩
          rw [List.flatMap_append, List.map_append]
          simp [stp, stp0, stp1, c0, c1]
      · rintro sl ⟨z, rfl⟩
        simp? [w_nx]
        exact ⟨false, _, _, _, (by rw [List.length_append]; rfl)⟩
  · rintro sl ⟨b, x, y, z, rfl⟩
    rw [List.length_range]
    have hl : (bld F G (F + G)).length ≤ 64 := Nat.le_trans (bld_len F G _) (Nat.le_trans (Nat.pow_le_pow_right (by decide) h) (by decide))
    obtain ⟨z1, z2, z3, z4⟩ := srt_ok (bld F G (F + G)) hl (bld_ne F G h1)
    have hok : srOk ((bld F G (F + G)).map fun m => tZ m) := ⟨z1, z2, z3, z4⟩
    cases b <;> simp? [lsS, Bool.false_eq_true, hok, dSrt_tZ]
end K37

open PySem PS

namespace K37
open PySem PS
abbrev Rw := List ((Nat × Nat) × Bool)
def rV (r : Rw) : D := .dct true (kvE tP2 D.bl r)
abbrev Tb := List (Mg × Rw)
def tbD (t : Tb) : D := .dct true (kvE (fun m : Mg => tZ m) rV t)
def rowL (ps : List (Nat × Nat)) (m : Mg) : Rw := ps.map fun p => (p, lessB p.1 p.2 m)
def tabL (F G : Nat) (E : List Mg) : Tb := E.map fun m => (m, rowL (prs F G) m)
theorem lk_map {α β : Type} [DecidableEq α] {f : α → β} {l : List α} {a : α} (h : a ∈ l) : lk (l.map fun x => (x, f x)) a = some (f a) := by
  induction l with
  | nil => cases h
  | cons b l ih =>
    unfold lk
    rw [List.map_cons, List.find?_cons]
    by_cases e : b = a
    · subst e; simp
    · simp only [e, decide_false]
      have : a ∈ l := (List.mem_cons.mp h).elim (fun q => absurd q.symm e) id
      exact ih this
theorem lk_mapN {α β : Type} [DecidableEq α] {f : α → β} {l : List α} {a : α} (h : ¬ a ∈ l) : lk (l.map fun x => (x, f x)) a = none := lk_none.mpr fun p hp e => by
  obtain ⟨x, hx, rfl⟩ := List.mem_map.mp hp
  exact h (e ▸ hx)
theorem dput_row (r : Rw) (a t : Nat) (b : Bool) : dput (kvE tP2 D.bl r) (.tup [.int (a : Nat), .int (t : Nat)]) (.bl b) = kvE tP2 D.bl (put r (a, t) b) := dput_E (g := D.bl) kc_tP2.dec r (a, t) b
theorem ok_P2 (a t : Nat) : okKey true (.tup [.int (a : Nat), .int (t : Nat)]) = true := kc_tP2.ok (a, t)
theorem dput_tab (t : Tb) (m : Mg) (r : Rw) : dput (kvE (fun m : Mg => tZ m) rV t) (tZ m) (.dct true (kvE tP2 D.bl r)) = kvE (fun m : Mg => tZ m) rV (put t m r) := dput_E (g := rV) kc_tZ.dec t m r
theorem e_table (F G : Nat) (E : List Mg) (S : Sto) (hF : F ≤ 5) (hG : G ≤ 5) (hE : Set1 F G E) (hl : E.length ≤ 64) : f__law_table [.lst (E.map fun m => tZ m), .int F, .int G] S = some (tbD (tabL F G E), S) := by
  refine WO.eq (w_def [(some (SV.val (.lst (E.map fun m => tZ m)))), (some (SV.val (.int F))), (some (SV.val (.int G))), none, none, none, none, none, none, none, none, none] rfl rfl ?_)
  simp? [b__law_table]
  refine wfoC (l0 := E) (inj := fun m => tZ m) (fun pre sl => ∃ a b c d e, sl = [(some (SV.val (.lst (E.map fun m => tZ m)))), (some (SV.val (.int F))), (some (SV.val (.int G))), (some (SV.own (.dct true (kvE (fun m : Mg => tZ m) rV (tabL F G pre))))), a, b, c, d, e, none, none, none]) rfl ⟨_, _, _, _, _, rfl⟩ ?_ ?_
  · rintro pre m post sl e ⟨a, b, c, d, e', rfl⟩
    have hm : m ∈ E := by rw [e]; simp
    have hI := hE.sh m hm
    have hml := len_of hI
    simp? [w_nx]
    refine wlcA [0, 1] (inj := D.int) (fun r => .lst ((sp m r).map .int)) rfl (le_szC (c := 2) (Nat.le_refl _)) ?_ ?_
    · intro r _
      simp? [w_nx]
      refine wlc m.zipIdx (inj := fun p => .pr [.int (p.2 : Nat), .int p.1]) (fun p => decide (p.1 = r)) (fun p => .int (p.2 : Nat)) (by rw [← List.length_map (f := D.int) (as := m)]; exact enum_map0 D.int m) (le_szC (c := 16) (by simp; omega)) ?_ ?_
      · intro p _
        simp? [w_nx]
      · simp? [spk_zip]
    · simp? [w_nx]
      rw [w_r1 (by omega)]
      have hno : lk (tabL F G pre) m = none := lk_mapN fun q => by
        have := hE.nd
        rw [e, List.nodup_append] at this
        exact this.2.2 m q m (by simp) rfl
      refine wfoC (l0 := List.range F) (inj := fun i => .int ((i : Nat) : Int)) (fun pa sl => ∃ d e, sl = [(some (SV.val (.lst (E.map fun m => tZ m)))), (some (SV.val (.int F))), (some (SV.val (.int G))), (some (SV.own (.dct true (kvE (fun m : Mg => tZ m) rV (tabL F G pre))))), (some (SV.val (tZ m))), (some (SV.own (.lst [.lst ((sp m 0).map .int), .lst ((sp m 1).map .int)]))), (some (SV.own (.dct true (kvE tP2 D.bl (rowL (pa.flatMap fun a => (List.range G).map fun t => (a, t)) m))))), d, e, none, none, none]) rfl ⟨_, _, (by rfl)⟩ ?_ ?_
      · rintro pa a post1 sl e1 ⟨d, e2, rfl⟩
        have ha : a < F := List.mem_range.mp (by rw [e1]; simp)
        simp? [w_nx]
        rw [w_r1 (by omega)]
        refine wfoC (l0 := List.range G) (inj := fun i => .int ((i : Nat) : Int)) (fun pt sl => ∃ e, sl = [(some (SV.val (.lst (E.map fun m => tZ m)))), (some (SV.val (.int F))), (some (SV.val (.int G))), (some (SV.own (.dct true (kvE (fun m : Mg => tZ m) rV (tabL F G pre))))), (some (SV.val (tZ m))), (some (SV.own (.lst [.lst ((sp m 0).map .int), .lst ((sp m 1).map .int)]))), (some (SV.own (.dct true (kvE tP2 D.bl (rowL ((pa.flatMap fun a => (List.range G).map fun t => (a, t)) ++ pt.map fun t => (a, t)) m))))), (some (SV.val (.int (a : Nat)))), e, none, none, none]) rfl ⟨_, by rw [List.map_nil, List.append_nil]⟩ ?_ ?_
        · rintro pt t post2 sl e3 ⟨e4, rfl⟩
          have ht : t < G := List.mem_range.mp (by rw [e3]; simp)
          have h0 : a < m.count 0 := by rw [hI.2.1]; exact ha
          have h1 : t < m.count 1 := by rw [hI.2.2]; exact ht
          have hrl : (kvE tP2 D.bl (rowL ((pa.flatMap fun a => (List.range G).map fun t => (a, t)) ++ pt.map fun t => (a, t)) m)).length < sizeLine := by
            have h3 : pt.length < G := by
              have := congrArg List.length e3
              simp at this; omega
            have h4 : pa.length < F := by
              have := congrArg List.length e1
              simp at this; omega
            have h5 : ∀ l : List Nat, (l.flatMap fun a => (List.range G).map fun t => (a, t)).length = l.length * G := fun l => by
              induction l with
              | nil => simp
              | cons a l ih => rw [List.flatMap_cons, List.length_append, ih, List.length_map, List.length_range, List.length_cons, Nat.succ_mul]; omega
            have h6 : pa.length * G ≤ 5 * 5 := Nat.mul_le_mul (by omega) hG
            refine lt_szC (c := 100) ?_
            rw [kvE_len, rowL, List.length_map, List.length_append, h5, List.length_map]
            omega
          have nin : lk (rowL ((pa.flatMap fun a => (List.range G).map fun t => (a, t)) ++ pt.map fun t => (a, t)) m) (a, t) = none := by
            refine lk_mapN fun q => ?_
            rcases List.mem_append.mp q with q | q
            · obtain ⟨a', ha', q⟩ := List.mem_flatMap.mp q
              obtain ⟨t', _, q⟩ := List.mem_map.mp q
              cases q
              have := List.nodup_range (n := F)
              rw [e1, List.nodup_append] at this
              exact this.2.2 _ ha' _ (List.mem_cons_self ..) rfl
            · obtain ⟨t', ht', q⟩ := List.mem_map.mp q
              cases q
              have := List.nodup_range (n := G)
              rw [e3, List.nodup_append] at this
              exact this.2.2 _ ht' _ (List.mem_cons_self ..) rfl
          simp? [at_sp h0, at_sp h1, ok_P2, hrl, dput_row]
          refine ⟨(some (SV.val (.int (t : Nat)))), ?_⟩
          have hr : ∀ (ps : List (Nat × Nat)), rowL (ps ++ [(a, t)]) m = rowL ps m ++ [((a, t), lessB a t m)] := fun ps => by rw [rowL, rowL, List.map_append]; rfl
          rw [put_new nin, List.map_append, ← List.append_assoc]
          show _ = [_, _, _, _, _, _, some (SV.own (Ob.dct true (kvE tP2 D.bl (rowL (_ ++ [(a, t)]) m)))), _, _, _, _, _]
          rw [hr]
          rfl
        · rintro sl ⟨e4, rfl⟩
          simp? [w_nx]
          exact ⟨_, _, (by rw [List.flatMap_append]; simp only [List.flatMap_cons, List.flatMap_nil, List.append_nil]; rfl)⟩
      · rintro sl ⟨d, e2, rfl⟩
        have hpl : (kvE (fun m : Mg => tZ m) rV (tabL F G pre)).length < sizeLine := lt_szC (c := 64) (by
          have := congrArg List.length e
          rw [List.length_append] at this
          rw [kvE_len, tabL, List.length_map]
          omega)
        simp? [kc_tZ.ok, hpl, dput_tab]
        exact ⟨_, _, _, _, _, (by rw [put_new hno, tabL, tabL, List.map_append]; rfl)⟩
  · rintro sl ⟨a, b, c, d, e', rfl⟩
    simp? [w_nx]
    rfl
/-- what the table tells -/
theorem tab_at {F G : Nat} {E : List Mg} {m : Mg} (hm : m ∈ E) : lk (tabL F G E) m = some (rowL (prs F G) m) := lk_map hm
theorem row_at {F G : Nat} {m : Mg} {p : Nat × Nat} (hp : p ∈ prs F G) : lk (rowL (prs F G) m) p = some (lessB p.1 p.2 m) := lk_map hp
theorem prs_sorted (F G : Nat) : (prs F G).Pairwise fun p q => p.1 < q.1 ∨ p.1 = q.1 ∧ p.2 < q.2 := by
  unfold prs
  rw [List.pairwise_flatMap]
  constructor
  · intro a _
    rw [List.pairwise_map]
    exact List.pairwise_lt_range.imp fun h => .inr ⟨rfl, h⟩
  · refine List.pairwise_lt_range.imp fun {a b} h p hp q hq => ?_
    obtain ⟨_, _, rfl⟩ := List.mem_map.mp hp
    obtain ⟨_, _, rfl⟩ := List.mem_map.mp hq
    exact .inl h
theorem dlt_P2 (p q : Nat × Nat) : PySem.W.dataLt (py (tP2 p)) (py (tP2 q)) = decide (p.1 < q.1 ∨ p.1 = q.1 ∧ p.2 < q.2) := by
  simp only [tP2, py, pys, dlt_intc, dlt_nn]
  by_cases h1 : p.1 = q.1
  · by_cases h2 : p.2 = q.2
    · simp [h1, h2]
    · have h3 : ¬ ((p.2 : Int) = q.2) := by omega
      simp [h1, h3]
  · have h3 : ¬ ((p.1 : Int) = q.1) := by omega
    simp [h1, h3]
theorem prs_srt (F G : Nat) : dSrt ((prs F G).map tP2) = (prs F G).map tP2 := by
  rw [dSrt_map dlt_P2]
  congr 1
  refine List.mergeSort_of_pairwise ((prs_sorted F G).imp fun {a b} h => ?_)
  simp only [Bool.not_eq_true', decide_eq_false_iff_not]
  omega
theorem prs_len {F G : Nat} (hF : F ≤ 5) (hG : G ≤ 5) : (prs F G).length ≤ 25 := by
  unfold prs
  have : ∀ l : List Nat, (l.flatMap fun a => (List.range G).map fun t => (a, t)).length = l.length * G := fun l => by
    induction l with
    | nil => simp
    | cons a l ih => rw [List.flatMap_cons, List.length_append, ih, List.length_map, List.length_range, List.length_cons, Nat.succ_mul]; omega
  rw [this, List.length_range]
  exact Nat.mul_le_mul hF hG
theorem prs_sr (F G : Nat) (hF : F ≤ 5) (hG : G ≤ 5) : srOk ((prs F G).map tP2) := srOk_map (by
  unfold prs
  have : ∀ l : List Nat, (l.flatMap fun a => (List.range G).map fun t => (a, t)).length = l.length * G := fun l => by
    induction l with
    | nil => simp
    | cons a l ih => rw [List.flatMap_cons, List.length_append, ih, List.length_map, List.length_range, List.length_cons, Nat.succ_mul]; omega
  rw [this, List.length_range]
  have := Nat.mul_le_mul hF hG
  omega) (pds_map fun p _ => (pd_tup (k := 1) (pds_cons pd_int (pds_cons pd_int pds_nil))).mono (by decide)) (fun _ _ _ _ => by simp [tP2, py, pys, al_tt, al_cc, al_int, al_nil]) (.inl fun p _ => ⟨_, _, rfl⟩)
theorem dlk_tab (t : Tb) (m : Mg) : dlk (kvE (fun m : Mg => tZ m) rV t) (tZ m) = (lk t m).map rV := dlk_E kc_tZ.dec t m
theorem dlk_row (r : Rw) (p : Nat × Nat) : dlk (kvE tP2 D.bl r) (tP2 p) = (lk r p).map D.bl := dlk_E kc_tP2.dec r p
/-- the parting questions, and how many are less -/
def uD (S : List Mg) (p : Nat × Nat) : D := .tup [tP2 p, .int ((Lo p.1 p.2 S).length : Nat)]
theorem row_keys (ps : List (Nat × Nat)) (m : Mg) : (kvE tP2 D.bl (rowL ps m)).map (·.1) = ps.map tP2 := by
  unfold kvE rowL
  rw [List.map_map, List.map_map]; rfl
theorem e_useful (F G : Nat) (E T : List Mg) (S : Sto) (hF : F ≤ 5) (hG : G ≤ 5) (hT : ∀ m ∈ T, m ∈ E) (hne : T ≠ []) (hl : T.length ≤ 64) : f__law_useful [tbD (tabL F G E), .lst (T.map fun m => tZ m)] S = some (.lst ((ways F G T).map (uD T)), S) := by
  obtain ⟨m0, T', rfl⟩ : ∃ m r, T = m :: r := by cases T with
    | nil => exact absurd rfl hne
    | cons d r => exact ⟨d, r, rfl⟩
  have h0 := tab_at (F := F) (G := G) (hT m0 (by simp))
  refine WO.eq (w_def [(some (SV.val (tbD (tabL F G E)))), (some (SV.val (.lst ((m0 :: T').map fun m => tZ m)))), none, none, none, none] rfl rfl ?_)
  simp? [b__law_useful, tbD, kc_tZ.ok, dlk_tab, h0, rV, row_keys, prs_sr F G hF hG, prs_srt]
  generalize hTT : m0 :: T' = T at *
  refine wfoC (l0 := prs F G) (inj := tP2) (fun pre sl => ∃ a b, sl = [(some (SV.val (.dct true (kvE (fun m : Mg => tZ m) rV (tabL F G E))))), (some (SV.val (.lst (T.map fun m => tZ m)))), (some (SV.own (.lst ((pre.filter (wok T)).map (uD T))))), a, b, none]) (by rfl) ⟨_, _, (by rw [← hTT]; rfl)⟩ ?_ ?_
  · rintro pre p post sl e ⟨a, b, rfl⟩
    have hp : p ∈ prs F G := by rw [e]; simp
    simp? [w_nx]
    refine wlc T (inj := fun m => tZ m) (fun m => lessB p.1 p.2 m) (fun _ => .int 1) rfl (le_szC (c := 64) hl) ?_ ?_
    · intro m hm
      have hm0 := tab_at (F := F) (G := G) (hT m hm)
      cases c : lessB p.1 p.2 m <;> simp? [kc_tZ.ok, dlk_tab, hm0, rV, kc_tP2.ok, dlk_row, row_at hp, c]
    · have hlo : (T.filter fun m => lessB p.1 p.2 m) = Lo p.1 p.2 T := rfl
      have hsum := lomo p.1 p.2 T
      have hpre : ((pre.filter (wok T)).map (uD T)).length + 1 ≤ sizeLine := le_szC (c := 100) (by
        have h1 : (pre.filter (wok T)).length ≤ pre.length := List.length_filter_le _ _
        have h2 := prs_len hF hG
        rw [e, List.length_append, List.length_cons] at h2
        rw [List.length_map]
        omega)
      rw [List.length_map] at hpre
      have hw : wok T p = (decide (0 < ((Lo p.1 p.2 T).length : Int)) && decide (((Lo p.1 p.2 T).length : Int) < T.length)) := by
        have z : ∀ l : List Mg, (!l.isEmpty) = decide (0 < (l.length : Int)) := fun l => by
          cases l with
          | nil => rfl
          | cons a l =>
            show true = _
            symm
            rw [decide_eq_true_eq, List.length_cons]
            omega
        unfold wok
        rw [z, z]
        congr 1
        rw [decide_eq_decide]
        omega
      have hadd : (pre ++ [p]).filter (wok T) = pre.filter (wok T) ++ if wok T p = true then [p] else [] := filter_snoc
      rw [hw] at hadd
      have hpre0 : (pre.filter (wok T)).length ≤ sizeLine := by omega
      cases c1 : decide (0 < ((Lo p.1 p.2 T).length : Int)) <;> cases c2 : decide (((Lo p.1 p.2 T).length : Int) < T.length) <;> simp? [hlo, c1, c2, hpre, hpre0, Nat.add_zero]
      all_goals
        rw [c1, c2] at hadd
        refine ⟨(some (SV.val (tP2 p))), (some (SV.val (.int ((Lo p.1 p.2 T).length : Nat)))), ?_⟩
        rw [hadd]
        simp [uD]
  · rintro sl ⟨a, b, rfl⟩
    simp? [w_nx]
    rfl
end K37

open PySem PS

namespace K37
open PySem PS
theorem vwD_uD (T : List Mg) (p : Nat × Nat) (S : Sto) : vwD S (uD T p) = some (uD T p) := rfl
theorem asking_spec {F G : Nat} (hs : Sh F G) {E : List Mg} (n : Nat) (way : Int) (hway : way = 0 ∨ way = 1 ∨ way = 2) : ∀ (k : Nat) (T : List Mg) (S : Sto) (t : Nat), T.length ≤ k → T ≠ [] → Set1 F G T → (∀ m ∈ T, m ∈ E) → T.length ≤ 64 → Pot n t S → t + T.length < 1000000 →
    WO (f__law_asking (k + 1) [.loc n, tbD (tabL F G E), .lst (T.map fun m => tZ m), .int way] S) fun p => ∃ q, p.1 = dP q ∧ Ok F G q T ∧ Drw n (t + (T.length - 1)) S p.2 := by
  intro k
  induction k with
  | zero => intro T S t h hne; exact absurd (List.length_eq_zero_iff.mp (by omega)) hne
  | succ k ih =>
    intro T S t hk hne hS hTE hl hP ht
    have hu := e_useful F G E T S hs.F5 hs.G5 hTE hne hl
    refine w_def [(some (SV.val (.loc n))), (some (SV.val (tbD (tabL F G E)))), (some (SV.val (.lst (T.map fun m => tZ m)))), (some (SV.val (.int way))), none, none, none, none, none, none, none, none, none, none] rfl rfl ?_
    by_cases h1 : T.length = 1
    · obtain ⟨m, rfl⟩ := at_list h1
      simp? [b__law_asking]
      exact ⟨.lf m, rfl, rfl, Drw.refl (hP.mono (by simp))⟩
    have h2 : ¬ ((T.length : Int) = 1) := by omega
    have h3 : ¬ T.length < 2 := by have := List.length_pos_iff.mpr hne; omega
    have hwn : ways F G T ≠ [] := hS.ways_ne h3
    have hwl := ways_len hs.F5 hs.G5 T
    -- the rest, once the question is chosen
    have rest : ∀ (p : Nat × Nat) (S1 : Sto) (x y : Option SV), p ∈ ways F G T → Drw n (t + 1) S S1 →
        WM (sSeq (sOwn 6 (nLc (iV (vr 2)) (gN 10) (mB (m2 gIx (oD (m2 gIx (pk 1) (pk 10))) (pk 5))) (vr 10) [10])) (sSeq (sOwn 7 (nLc (iV (vr 2)) (gN 10) (tNot (mB (m2 gIx (oD (m2 gIx (pk 1) (pk 10))) (pk 5)))) (vr 10) [10])) (sSeq (sOwn 8 (nLc (iV (nTup (aC (vr 6) (aC (vr 7) aN)))) (gN 11) tYs (mCall (f__law_asking (k + 1)) [] (aC (vr 0) (aC (vr 1) (aC (vr 11) (aC (vr 3) aN))))) [11])) (sRet (nTup (aC (cs (.str "compare")) (aC (m2 gIx (pk 5) (oD (cs (.int 0)))) (aC (m2 gIx (pk 5) (oD (cs (.int 1)))) (aC (m2 gIx (pk 8) (oD (cs (.int 0)))) (aC (m2 gIx (pk 8) (oD (cs (.int 1)))) aN)))))))))) [(some (SV.val (.loc n))), (some (SV.val (tbD (tabL F G E)))), (some (SV.val (.lst (T.map fun m => tZ m)))), (some (SV.val (.int way))), (some (SV.val (.lst ((ways F G T).map (uD T))))), (some (SV.val (tP2 p))), none, none, none, x, none, none, none, none] S1 fun fl _ S' => S'.length = S.length ∧ WR fl fun d => ∃ q, (d, S').1 = dP q ∧ Ok F G q T ∧ Drw n (t + (T.length - 1)) S (d, S').2 := by
      intro p S1 x y hp hD
      have hw := mem_ways.mp (show (p.1, p.2) ∈ ways F G T from hp)
      have hpp : p ∈ prs F G := (List.mem_filter.mp hp).1
      have hsh := shorter (show (p.1, p.2) ∈ ways F G T from hp)
      have hlm := lomo p.1 p.2 T
      simp? [w_nx]
      refine wlc T (inj := fun m => tZ m) (lessB p.1 p.2) (fun m => tZ m) rfl (le_szC (c := 64) hl) ?_ ?_
      · intro m hm
        have hm0 := tab_at (F := F) (G := G) (hTE m hm)
        cases c : lessB p.1 p.2 m <;> simp? [tbD, kc_tZ.ok, dlk_tab, hm0, rV, kc_tP2.ok, dlk_row, row_at hpp, c]
      · simp? [w_nx]
        refine wlc T (inj := fun m => tZ m) (fun m => !lessB p.1 p.2 m) (fun m => tZ m) rfl (le_szC (c := 64) hl) ?_ ?_
        · intro m hm
          have hm0 := tab_at (F := F) (G := G) (hTE m hm)
          cases c : lessB p.1 p.2 m <;> simp? [tbD, kc_tZ.ok, dlk_tab, hm0, rV, kc_tP2.ok, dlk_row, row_at hpp, c]
        · simp? [w_nx]
          refine wlcI (l0 := [Lo p.1 p.2 T, Mo p.1 p.2 T]) (inj := fun T => .lst (T.map fun m => tZ m)) (fun pre acc S' => ∃ qs : List Pl, acc = qs.map dP ∧ qs.length = pre.length ∧ (∀ i (h : i < qs.length) (h2 : i < pre.length), Ok F G qs[i] pre[i]) ∧ Drw n (t + 1 + (pre.map fun U => U.length - 1).sum) S S') (by rfl) ⟨[], rfl, rfl, fun i h => by simp at h, hD⟩ ?_ ?_
          · rintro pre U post acc S2 e ⟨qs, rfl, hq, hok, hD2⟩
            have hU : U.length < T.length ∧ U ≠ [] ∧ Set1 F G U ∧ (∀ m ∈ U, m ∈ E) ∧ pre.length < 2 ∧ (pre.map fun U => U.length - 1).sum + U.length < T.length := by
              rcases pre with _ | ⟨a, _ | ⟨b, _ | ⟨c, r⟩⟩⟩
              · rw [List.nil_append] at e
                injection e with e1 e2
                subst e1
                exact ⟨hsh.1, hw.2.2.1, hS.filter _, fun m hm => hTE m (List.mem_filter.mp hm).1, by simp, by simp; omega⟩
              · injection e with e1 e2
                injection e2 with e2 e3
                subst e1 e2
                exact ⟨hsh.2, hw.2.2.2, hS.filter _, fun m hm => hTE m (List.mem_filter.mp hm).1, by simp, by simp; omega⟩
              · injection e with e1 e2
                injection e2 with e2 e3
                injection e3
              · injection e with e1 e2
                injection e2 with e2 e3
                injection e3
            simp? [w_nx]
            refine WO.mono (ih U S2 (t + 1 + (pre.map fun U => U.length - 1).sum) (by omega) hU.2.1 hU.2.2.1 hU.2.2.2.1 (by omega) hD2.po (by omega)) ?_
            rintro ⟨d, S3⟩ ⟨q, rfl, hqok, hD3⟩
            refine ⟨lt_szC (c := 10) (by omega), qs ++ [q], by rw [List.map_append]; rfl, by simp [hq], ?_, (hD2.trans hD3).mono (by simp; omega)⟩
            intro i h h2
            by_cases hi : i < qs.length
            · rw [List.getElem_append_left hi, List.getElem_append_left (by omega)]
              exact hok i hi (by omega)
            · have hi2 : i = qs.length := by simp at h; omega
              subst hi2
              rw [List.getElem_append_right (Nat.le_refl _), List.getElem_append_right (by omega)]
              simp only [hq, Nat.sub_self, List.getElem_cons_zero]
              exact hqok
          · rintro acc S2 ⟨qs, rfl, hq, hok, hD2⟩
            obtain ⟨q1, q2, rfl⟩ : ∃ q1 q2, qs = [q1, q2] := by
              match qs, hq with
              | [q1, q2], _ => exact ⟨q1, q2, rfl⟩
            have o1 := hok 0 (by simp) (by simp)
            have o2 := hok 1 (by simp) (by simp)
            simp? [tP2]
            have a1 := List.length_pos_iff.mpr hw.2.2.1
            have a2 := List.length_pos_iff.mpr hw.2.2.2
            refine ⟨hD2.ln, .nd p.1 p.2 q1 q2, rfl, ⟨hw.1, hw.2.1, hw.2.2.1, hw.2.2.2, o1, o2⟩, hD2.mono ?_⟩
            simp
            omega
    obtain ⟨w0, wr, hww⟩ : ∃ p r, ways F G T = p :: r := by
      cases h : ways F G T with
      | nil => exact absurd h hwn
      | cons p r => exact ⟨p, r, rfl⟩
    have hw0 : w0 ∈ ways F G T := by rw [hww]; simp
    rcases hway with rfl | rfl | rfl
    · have := rest w0 S none none hw0 (Drw.refl (hP.mono (by omega)))
      simp? [b__law_asking, h2, hu]
      simp? [w_nx] at this
      rw [hww] at this ⊢
      simp? [uD]
      exact this
    · simp? [b__law_asking, h2, hu]
      refine WO.mono (of_spec hP (by omega) (by simpa using hwn) (by rw [List.length_map]; omega) (fun d hd S => by
        obtain ⟨p, _, rfl⟩ := List.mem_map.mp hd
        rfl)) ?_
      rintro ⟨d, S1⟩ ⟨hd, hD⟩
      obtain ⟨p, hp, rfl⟩ := List.mem_map.mp hd
      simp? [uD]
      refine wlcA (ways F G T) (inj := uD T) (fun p => .int (if 2 * ((Lo p.1 p.2 T).length : Int) - T.length < 0 then -(2 * ((Lo p.1 p.2 T).length : Int) - T.length) else 2 * ((Lo p.1 p.2 T).length : Int) - T.length)) (by rfl) (le_szC (c := 25) hwl) ?_ ?_
      · intro p _
        simp? [uD]
        exact Bn.lg (k := 10) (.of (by decide) (by decide)) (.of (k := 10) (by omega) (by have := lomo p.1 p.2 T; omega))
      · generalize hg : (fun p : Nat × Nat => if 2 * ((Lo p.1 p.2 T).length : Int) - T.length < 0 then -(2 * ((Lo p.1 p.2 T).length : Int) - T.length) else 2 * ((Lo p.1 p.2 T).length : Int) - T.length) = gp
        have e1 : (ways F G T).map (fun p => D.int (if 2 * ((Lo p.1 p.2 T).length : Int) - T.length < 0 then -(2 * ((Lo p.1 p.2 T).length : Int) - T.length) else 2 * ((Lo p.1 p.2 T).length : Int) - T.length)) = ((ways F G T).map gp).map D.int := by rw [← hg, List.map_map]; rfl
        have hgn : (ways F G T).map gp ≠ [] := by simpa using hwn
        have hgn2 : ¬ (((ways F G T).map gp).map D.int = []) := by simpa using hwn
        have hmin := minN'_mem hgn
        have hidx : ((ways F G T).map gp).idxOf (minN' ((ways F G T).map gp)) < (ways F G T).length := by
          have := List.idxOf_lt_length_of_mem hmin
          rwa [List.length_map] at this
        rw [e1]
        simp? [mmOk_ints, mm_minI hgn, hgn2, ne_eq, not_false_eq_true]
        have hix := fun Q : Int → Prop => w_idx (f := D.int) (Q := Q) deq_int (l := (ways F G T).map gp) (a := minN' ((ways F G T).map gp))
        simp? [hix, hmin, at_map, at_n hidx, uD]
        have := rest _ S1 ((some (SV.own (.lst (((ways F G T).map gp).map D.int))))) none (List.getElem_mem hidx) hD
        simp? [w_nx] at this
        exact this
    · simp? [b__law_asking, h2, hu]
      refine WO.mono (of_spec hP (by omega) (by simpa using hwn) (by rw [List.length_map]; omega) (fun d hd S => by
        obtain ⟨p, _, rfl⟩ := List.mem_map.mp hd
        rfl)) ?_
      rintro ⟨d, S1⟩ ⟨hd, hD⟩
      obtain ⟨p, hp, rfl⟩ := List.mem_map.mp hd
      simp? [uD]
      have := rest p S1 none none hp hD
      simp? [w_nx] at this
      exact this
end K37

open PySem PS

namespace K37
open PySem PS
/-- the end of the way -/
def leaf : Pl → Mg → Mg
  | .lf k, _ => k
  | .nd a t l r, m => if lessB a t m then leaf l m else leaf r m
theorem Ok.leaf {F G : Nat} : ∀ {p : Pl} {S : List Mg} {m : Mg}, Ok F G p S → m ∈ S → leaf p m = m
  | .lf k, S, m, e, hm => by
    rw [show S = [k] from e] at hm
    have : m = k := by simpa using hm
    rw [this]; rfl
  | .nd a t l r, S, m, ⟨_, _, _, _, h5, h6⟩, hm => by
    rw [K37.leaf]
    cases c : lessB a t m
    · exact Ok.leaf h6 (List.mem_filter.mpr ⟨hm, by simp [c]⟩)
    · exact Ok.leaf h5 (List.mem_filter.mpr ⟨hm, c⟩)
theorem cut_13 {a b c d e : D} : mSl.cutV' [a, b, c, d, e] (some 1) (some 3) = [b, c] := by
  unfold mSl.cutV'
  rw [show (1 : Int) = ((1 : Nat) : Int) from rfl, show (3 : Int) = ((3 : Nat) : Int) from rfl, HT.sIx_nat, HT.sIx_nat]
  rfl
theorem e_led {F G : Nat} {E : List Mg} {p : Pl} {m : Mg} (hp : p.inn F G) (hd : p.dep < 30) (hm : m ∈ E) (S : Sto) : f__law_led [tbD (tabL F G E), dP p, tZ m] S = some (.tup [.tup ((trail p m).map qD), dP (.lf (leaf p m))], S) := by
  have hm0 := tab_at (F := F) (G := G) hm
  refine WO.eq (w_def [(some (SV.val (tbD (tabL F G E)))), (some (SV.val (dP p))), (some (SV.val (tZ m))), none, none, none, none] rfl rfl ?_)
  have h30 : (30 : Int) = ((30 : Nat) : Int) := rfl
  simp? [b__law_led]
  rw [h30, w_r1 (by omega)]
  refine wfoC (l0 := List.range 30) (inj := fun i => .int ((i : Nat) : Int)) (fun pre sl => ∃ p' acc x y, sl = [(some (SV.val (tbD (tabL F G E)))), (some (SV.val (dP p))), (some (SV.val (tZ m))), x, (some (SV.own (.lst (List.map qD acc)))), (some (SV.val (dP p'))), y] ∧ p'.inn F G ∧ acc ++ trail p' m = trail p m ∧ leaf p' m = leaf p m ∧ acc.length ≤ pre.length ∧ p'.dep ≤ 30 - pre.length ∧ pre.length ≤ 30) rfl ⟨p, [], _, _, rfl, hp, rfl, rfl, Nat.le_refl _, by simp; omega, by simp⟩ ?_ ?_
  · rintro pre i post sl e ⟨p', acc, x, y, rfl, hi, ha, hl, hlen, hdp, h3⟩
    have hpre : pre.length < 30 := by
      have := congrArg List.length e
      simp at this; omega
    cases p' with
    | lf k =>
      simp? [dP, ne_mc]
      exact ⟨.lf k, acc, _, _, (by rw [dP]), hi, ha, hl, by simp; omega, by show (0 : Nat) ≤ _; omega, by simp; omega⟩
    | nd a t l r =>
      have hdp : 1 + max l.dep r.dep ≤ 30 - pre.length := hdp
      have hap : (a, t) ∈ prs F G := mem_prs.mpr ⟨hi.1, hi.2.1⟩
      have hr := row_at (m := m) hap
      have hal : acc.length < sizeLine := lt_szC (c := 30) (by omega)
      rw [trail] at ha
      rw [leaf] at hl
      have e6 : dlk (kvE tP2 D.bl (rowL (prs F G) m)) (.tup [.int (a : Nat), .int (t : Nat)]) = (lk (rowL (prs F G) m) (a, t)).map D.bl := dlk_row (rowL (prs F G) m) (a, t)
      cases c : lessB a t m
      · simp only [c, Bool.false_eq_true, if_false] at ha hl
        simp? [dP, tbD, kc_tZ.ok, dlk_tab, hm0, rV, cut_13, ok_P2, e6, hr, c, hal]
        exact ⟨r, acc ++ [(a, t, 1)], _, _, (by rw [List.map_append]; rfl), hi.2.2.2, by rw [List.append_assoc]; exact ha, hl, by simp; omega, by simp; omega, by simp; omega⟩
      · simp only [c, if_true] at ha hl
        simp? [dP, tbD, kc_tZ.ok, dlk_tab, hm0, rV, cut_13, ok_P2, e6, hr, c, hal]
        exact ⟨l, acc ++ [(a, t, -1)], _, _, (by rw [List.map_append]; rfl), hi.2.2.1, by rw [List.append_assoc]; exact ha, hl, by simp; omega, by simp; omega, by simp; omega⟩
  · rintro sl ⟨p', acc, x, y, rfl, hi, ha, hl, hlen, hdp, h3⟩
    rw [List.length_range] at hdp
    cases p' with
    | lf k =>
      rw [trail, List.append_nil] at ha
      simp? [ha]
      rw [← hl]; rfl
    | nd a t l r =>
      have hdp : 1 + max l.dep r.dep ≤ 30 - 30 := hdp
      omega
theorem e_law_heads {F G : Nat} (hs : F + G ≤ 6) {m : Mg} (hm : IsM F G m) (S : Sto) : f__law_heads [tZ m, .int F, .int G] S = some (.tup ((heads F G m 0 0).map qD), S) := by
  refine WO.eq (w_def [(some (SV.val (tZ m))), (some (SV.val (.int F))), (some (SV.val (.int G))), none, none, none, none] rfl rfl ?_)
  simp? [b__law_heads]
  refine wfoC (l0 := m) (inj := D.int) (fun pre sl => ∃ x a t acc post, sl = [(some (SV.val (tZ m))), (some (SV.val (.int F))), (some (SV.val (.int G))), x, (some (SV.own (.lst (List.map qD acc)))), (some (SV.val (.int (a : Nat)))), (some (SV.val (.int (t : Nat))))] ∧ m = pre ++ post ∧ acc ++ heads F G post a t = heads F G m 0 0 ∧ acc.length ≤ pre.length) rfl ⟨_, 0, 0, [], m, rfl, rfl, rfl, Nat.le_refl _⟩ ?_ ?_
  · rintro pre y post sl e ⟨x, a, t, acc, post', rfl, e2, ha, hl⟩
    have : post' = y :: post := List.append_cancel_left (e2.symm.trans e)
    subst this
    have hlen : acc.length < sizeLine := lt_szC (c := 64) (by
      have := len_of hm
      have := congrArg List.length e
      rw [List.length_append] at this
      omega)
    rcases hm.1 y (by rw [e]; simp) with rfl | rfl <;> by_cases c1 : a < F <;> by_cases c2 : t < G <;> simp? [Int.ofNat_lt, c1, c2, hlen, Int.add_zero]
    all_goals
      rw [heads] at ha
      simp only [c1, c2, and_self, and_true, true_and, and_false, false_and, if_true, if_false, List.nil_append, Int.reduceEq, ← List.append_assoc] at ha
      exact ⟨_, _, _, _, post, (by first | rfl | rw [List.map_append]; rfl), (by rw [e, List.append_assoc]; rfl), ha, by simp; omega⟩
  · rintro sl ⟨x, a, t, acc, post, rfl, e, ha, _⟩
    have : post = [] := by simpa using e
    subst this
    rw [heads, List.append_nil] at ha
    simp? [ha]
/-! bent ones -/
def leaves : Pl → List Mg
  | .lf m => [m]
  | .nd _ _ l r => leaves l ++ leaves r
theorem Ok.leaves {F G : Nat} : ∀ {p : Pl} {S : List Mg}, Ok F G p S → ∀ m, m ∈ leaves p ↔ m ∈ S
  | .lf k, S, e, m => by rw [show S = [k] from e]; exact .rfl
  | .nd a t l r, S, ⟨_, _, _, _, h5, h6⟩, m => by
    rw [K37.leaves, List.mem_append, Ok.leaves h5, Ok.leaves h6]
    unfold Lo Mo
    rw [List.mem_filter, List.mem_filter]
    cases c : lessB a t m <;> simp
theorem c5_t3 {a b c d e : D} : mSl.cutV' [a, b, c, d, e] none (some 3) = [a, b, c] := cut_to (n := 3)
theorem c5_t4 {a b c d e : D} : mSl.cutV' [a, b, c, d, e] none (some 4) = [a, b, c, d] := cut_to (n := 4)
theorem c5_f4 {a b c d e : D} : mSl.cutV' [a, b, c, d, e] (some 4) none = [e] := cut_from (n := 4)
theorem c5_f5 {a b c d e : D} : mSl.cutV' [a, b, c, d, e] (some 5) none = [] := cut_from (n := 5)
/-- made other at a drawn place, so that it does not merge -/
theorem bent_spec {F G : Nat} (hs : Sh F G) (n : Nat) : ∀ (k : Nat) (p : Pl) (T : List Mg) (S : Sto) (t : Nat), p.dep < k → Ok F G p T → Okk F G T → Pot n t S → t + 2 * p.dep < 1000000 →
    WO (f__law_bent k [.loc n, dP p] S) fun q => ∃ p', q.1 = dP p' ∧ p'.wf ∧ p'.dep ≤ p.dep ∧ okB F G p' T = false ∧ Drw n (t + 2 * p.dep) S q.2
  | 0, _, _, _, _, h, _, _, _, _ => absurd h (by omega)
  | k + 1, .lf m, T, S, t, h, hp, hO, hP, ht => by
    have hm := hO.sh m (by rw [show T = [m] from hp]; simp)
    have hml := len_of hm
    have hfg := hs.fg
    have hz : m.length + 1 ≤ sizeLine := le_szC (c := 16) (by omega)
    refine w_def [(some (SV.val (.loc n))), (some (SV.val (dP (.lf m)))), none, none] rfl rfl ?_
    simp? [b__law_bent, dP, List.length_reverse, hz]
    refine ⟨.lf (m.reverse ++ [0]), ?_, ⟨?_, by simp; omega⟩, Nat.le_refl _, ?_, Drw.refl hP⟩
    · rw [dP]
      simp
    · intro x hx
      rcases List.mem_append.mp hx with hx | hx
      · exact hm.1 x (by simpa using hx)
      · exact .inl (by simpa using hx)
    · have hc : (m.reverse ++ [0]).count 0 = F + 1 := by rw [List.count_append, List.count_reverse, hm.2.1]; rfl
      have : ¬ F + 1 = F := by omega
      simp only [okB, hc, this, decide_false, Bool.false_and, Bool.and_false]
  | k + 1, .nd a t' l r, T, S, t, h, hp, hO, hP, ht => by
    obtain ⟨h1, h2, h3, h4, h5, h6⟩ := hp
    have hd : 1 + max l.dep r.dep < k + 1 := h
    have hdep : (Pl.nd a t' l r).dep = 1 + max l.dep r.dep := rfl
    have wl := h5.wf (hO.filter _)
    have wr := h6.wf (hO.filter _)
    refine w_def [(some (SV.val (.loc n))), (some (SV.val (dP (.nd a t' l r)))), none, none] rfl rfl ?_
    simp? [b__law_bent, dP, ne_cm]
    refine WO.mono (take_spec hP (by omega) (by omega) (by omega)) ?_
    rintro ⟨d, S1⟩ ⟨v, rfl, hv0, hv1, hD⟩
    simp? [w_nx]
    refine WI_d (fun hv => ?_) fun hv => ?_
    · refine ⟨hD.ln, .nd a t' r l, (by rw [dP]), ⟨wr, wl⟩, by show 1 + max r.dep l.dep ≤ 1 + max l.dep r.dep; omega, ?_, hD.mono (by omega)⟩
      cases c : okB F G (.nd a t' r l) T with
      | false => rfl
      | true =>
        have hok := (okB_ok hO.sh).mp c
        have h5' := hok.2.2.2.2.1
        obtain ⟨m, hm⟩ := List.exists_mem_of_ne_nil _ h3
        have e1 := (Ok.leaves h5' m).mpr hm
        have e2 := (Ok.leaves h6 m).mp e1
        have q1 := (List.mem_filter.mp hm).2
        have q2 := (List.mem_filter.mp e2).2
        rw [q1] at q2
        cases q2
    refine WI_d (fun hv2 => ?_) fun hv2 => ?_
    · refine ⟨hD.ln, .nd (a + 9) t' l r, (by rw [dP]; simp), ⟨wl, wr⟩, Nat.le_refl _, ?_, hD.mono (by omega)⟩
      have : ¬ a + 9 < F := by have := hs.F5; omega
      simp only [okB, this, decide_false, Bool.false_and]
    refine WO.mono (take_spec hD.po (by omega) (by omega) (by omega)) ?_
    rintro ⟨d, S2⟩ ⟨w, rfl, hw0, hw1, hD2⟩
    have hw : w = 0 ∨ w = 1 := by omega
    rw [hdep] at ht
    rcases hw with rfl | rfl
    · simp? [w_nx]
      refine WO.mono (bent_spec hs n k l (Lo a t' T) S2 (t + 1 + 1) (by omega) h5 (hO.filter _) hD2.po (by omega)) ?_
      rintro ⟨d, S3⟩ ⟨p', rfl, hwf, hdl, hno, hD3⟩
      simp? [c5_t3, c5_f4]
      refine ⟨hD3.ln.trans (hD2.ln.trans hD.ln), .nd a t' p' r, (by rw [dP]), ⟨hwf, wr⟩, by show 1 + max p'.dep r.dep ≤ 1 + max l.dep r.dep; omega, ?_, ((hD.trans hD2).trans hD3).mono (by omega)⟩
      simp only [okB, hno, Bool.and_false, Bool.false_and]
    · simp? [w_nx]
      refine WO.mono (bent_spec hs n k r (Mo a t' T) S2 (t + 1 + 1) (by omega) h6 (hO.filter _) hD2.po (by omega)) ?_
      rintro ⟨d, S3⟩ ⟨p', rfl, hwf, hdl, hno, hD3⟩
      simp? [c5_t4, c5_f5]
      refine ⟨hD3.ln.trans (hD2.ln.trans hD.ln), .nd a t' l p', (by rw [dP]), ⟨wl, hwf⟩, by show 1 + max l.dep p'.dep ≤ 1 + max l.dep r.dep; omega, ?_, ((hD.trans hD2).trans hD3).mono (by omega)⟩
      simp only [okB, hno, Bool.and_false, Bool.false_and]
end K37

open PySem PS

namespace K37
open PySem PS
structure Env (F G : Nat) (E : List Mg) (few least : Nat) : Prop where
  mer : ∀ S, f_merges [.int F, .int G] S = some (tM E, S)
  lmer : ∀ S, f__law_merges [.int F, .int G] S = some (.lst (E.map fun m => tZ m), S)
  tab : ∀ S, f__law_table [.lst (E.map fun m => tZ m), .int F, .int G] S = some (tbD (tabL F G E), S)
  few1 : ∀ S, ClS S → ∃ d, f_fewest_comparisons [.int F, .int G] S = some (.tup [.int (few : Nat), d], S)
  lea1 : ∀ S, ClS S → ∃ d, f_least_comparisons [.int F, .int G] S = some (.tup [.int (least : Nat), d], S)
  few2 : ∀ S, ClS S → ∃ d, f_fewest_comparisons [.int G, .int F] S = some (.tup [.int (few : Nat), d], S)
  lea2 : ∀ S, ClS S → ∃ d, f_least_comparisons [.int G, .int F] S = some (.tup [.int (least : Nat), d], S)
  set : Set1 F G E
  ne : E ≠ []
  l20 : E.length ≤ 20
  okk : Okk F G E
  sh : Sh F G
  ism : ∀ p S, p.dep < 40 → p.wf → f_is_merging [.int F, .int G, dP p] S = some (.bl (okB F G p E), S)
  cmp : ∀ p m S, Ok F G p E → m ∈ E → f_compared_by [.int F, .int G, dP p, tZ m] S = some (.tup ((trail p m).map qD), S)
  sh1 : ∀ p S, ClS S → Ok F G p E → f_shows_fewest_comparisons [.int F, .int G, .tup [.int (cost false p E : Nat), dP p]] S = some (.bl (decide (cost false p E = few)), S)
  sh2 : ∀ p S, ClS S → Ok F G p E → f_shows_least_comparisons [.int F, .int G, .tup [.int (cost true p E : Nat), dP p]] S = some (.bl (decide (cost true p E = least)), S)
  ge1 : ∀ p, Ok F G p E → few ≤ cost false p E
  ge2 : ∀ p, Ok F G p E → least ≤ cost true p E
  hd : ∀ m S, m ∈ E → f_by_heads [.int F, .int G, tZ m] S = some (.tup ((heads F G m 0 0).map qD), S)
  lhd : ∀ m S, m ∈ E → f__law_heads [tZ m, .int F, .int G] S = some (.tup ((heads F G m 0 0).map qD), S)
  led : ∀ p m S, Ok F G p E → m ∈ E → f__law_led [tbD (tabL F G E), dP p, tZ m] S = some (.tup [.tup ((trail p m).map qD), dP (.lf m)], S)
theorem Sh.sw {F G : Nat} (h : Sh F G) : Sh G F := ⟨h.g0, h.f0, by have := h.fg; omega⟩
theorem env {F G : Nat} (hs : Sh F G) : Env F G (every F G) (best false F G (every F G)) (best true F G (every F G)) where
  mer := fun S => e_merges F G S hs.F5 hs.G5 hs.fg (by have := hs.f0; omega)
  lmer := fun S => e_law_merges F G S hs.fg (by have := hs.f0; omega)
  tab := fun S => e_table F G (every F G) S hs.F5 hs.G5 (every_set F G) (every_len F G hs.fg)
  few1 := fun S hS => let ⟨⟨p, _, e⟩, _⟩ := e_two hs hS; ⟨_, e⟩
  lea1 := fun S hS => let ⟨_, p, _, e⟩ := e_two hs hS; ⟨_, e⟩
  few2 := fun S hS => let ⟨⟨p, _, e⟩, _⟩ := e_two hs.sw hS; ⟨dP p, by rw [← best_same]; exact e⟩
  lea2 := fun S hS => let ⟨_, p, _, e⟩ := e_two hs.sw hS; ⟨dP p, by rw [← best_same]; exact e⟩
  set := every_set F G
  ne := every_ne F G
  l20 := every_20 hs.fg
  okk := every_okk hs.fg
  sh := hs
  ism := fun p S hd hw => e_is_merging hs hd hw S
  cmp := fun p m S hp hm => e_compared_by hs hp (mem_every.mp hm) S
  sh1 := fun p S hS hp => (e_shows hs hS hp).1
  sh2 := fun p S hS hp => (e_shows hs hS hp).2
  ge1 := fun p hp => best_le hp
  ge2 := fun p hp => best_le hp
  hd := fun m S hm => e_by_heads hs (mem_every.mp hm) S
  lhd := fun m S hm => e_law_heads hs.fg (mem_every.mp hm) S
  led := fun p m S hp hm => by
    have := e_led (E := every F G) hp.inn (by have := Ok.dep40 hs.fg hp; omega) hm S
    rw [hp.leaf hm] at this
    exact this
theorem deq_tM (A B : List Mg) : deq (tM A) (tM B) = decide (A = B) := by rw [deq_tt]; exact deqs_map dtZ A B
theorem deq_qD (a b : Nat × Nat × Int) : deq (qD a) (qD b) = decide (a = b) := by
  unfold qD
  rw [deq_tt, deqs_cc, deqs_cc, deqs_cc, deqs_nn, deq_nat, deq_nat, deq_int, Bool.and_true]
  obtain ⟨a1, a2, a3⟩ := a
  obtain ⟨b1, b2, b3⟩ := b
  simp only [Prod.mk.injEq]
  by_cases h1 : a1 = b1 <;> by_cases h2 : a2 = b2 <;> by_cases h3 : a3 = b3 <;> simp [h1, h2, h3]
theorem deq_tqD (a b : List (Nat × Nat × Int)) : deq (.tup (a.map qD)) (.tup (b.map qD)) = decide (a = b) := by rw [deq_tt]; exact deqs_map deq_qD a b
theorem pd_tM (E : List Mg) : Pd 2 (tM E) := pd_tup (pds_map fun _ _ => pd_tZ _)
theorem pd_qD (a : Nat × Nat × Int) : Pd 1 (qD a) := pd_tup (pds_cons pd_int (pds_cons pd_int (pds_cons pd_int pds_nil)))
theorem pd_tqD (a : List (Nat × Nat × Int)) : Pd 2 (.tup (a.map qD)) := pd_tup (pds_map fun _ _ => pd_qD _)
theorem zip_same {α : Type} (f g : α → D) : ∀ l : List α, (l.map f).zipWith (fun d e => D.pr [d, e]) (l.map g) = l.map fun a => .pr [f a, g a]
  | [] => rfl
  | a :: l => by rw [List.map_cons, List.map_cons, List.zipWith_cons_cons, zip_same f g l]; rfl
def lotD (p : Pl) (m : Mg) : D := .tup [.tup ((trail p m).map qD), dP (.lf m)]
end K37

open PySem PS

namespace K37
open PySem PS
theorem list_of {α : Type} {P : α → Prop} {f : α → D} : ∀ {l : List D}, (∀ d ∈ l, ∃ a, P a ∧ d = f a) → ∃ m : List α, l = m.map f ∧ ∀ a ∈ m, P a
  | [], _ => ⟨[], rfl, fun _ h => by cases h⟩
  | d :: l, h => by
    obtain ⟨a, ha, rfl⟩ := h d (List.mem_cons_self ..)
    obtain ⟨m, rfl, hm⟩ := list_of (l := l) fun e he => h e (List.mem_cons_of_mem _ he)
    exact ⟨a :: m, rfl, fun x hx => (List.mem_cons.mp hx).elim (fun e => e ▸ ha) (hm x)⟩
theorem vwD_dP (p : Pl) (S : Sto) : vwD S (dP p) = some (dP p) := by cases p <;> rfl
theorem right_rest {F G : Nat} {E : List Mg} {few least : Nat} (env : Env F G E few least) {n t : Nat} {S : Sto} (hP : Pot n t S) (ht : t + 1000 < 1000000) :
    WM (sSeq (sSet 1 (mCall f__law_merges [] (aC (vr 5) (aC (vr 6) aN)))) (sSeq (sIf (mB (m2 (gEq true) (oD (mCall f_merges [] (aC (vr 5) (aC (vr 6) aN)))) (oD (mCb gTuple (aC (pk 1) aN))))) (sRet (cs (.bl false))) sNx) (sSeq (sSet 2 (mCall f__law_table [] (aC (vr 1) (aC (vr 5) (aC (vr 6) aN))))) (sSeq (sParA [7, 8] (avV (m2 gIx (oD (mCall f_fewest_comparisons [] (aC (vr 5) (aC (vr 6) aN)))) (oD (cs (.int 0)))) (avV (m2 gIx (oD (mCall f_least_comparisons [] (aC (vr 5) (aC (vr 6) aN)))) (oD (cs (.int 0)))) avN))) (sSeq (sFor (iV (nTup (aC (cs (.int 0)) (aC (cs (.int 1)) (aC (cs (.int 2)) aN))))) (gN 3) (sSeq (sSet 9 (mCall (f__law_asking 40) [] (aC (vr 0) (aC (vr 2) (aC (vr 1) (aC (vr 3) aN)))))) (sSeq (sIf (mB (m2 (gIs true) (oD (mCall f_is_merging [] (aC (vr 5) (aC (vr 6) (aC (vr 9) aN))))) (oD (cs (.bl true))))) (sRet (cs (.bl false))) sNx) (sSeq (sIf (mB (m2 (gIs true) (oD (mCall f_is_merging [] (aC (vr 5) (aC (vr 6) (aC (mCall (f__law_bent 40) [] (aC (vr 0) (aC (vr 9) aN))) aN))))) (oD (cs (.bl false))))) (sRet (cs (.bl false))) sNx) (sSeq (sOwn 10 (nLc (iV (vr 1)) (gN 4) tYs (mCall f__law_led [] (aC (vr 2) (aC (vr 9) (aC (vr 4) aN)))) [4])) (sSeq (sIf (tNot (mB (mCb (gAll false) (aC (oD (nFz (nLc (iZp (vr 10) (vr 1)) (gT 2 (gsC (gT 2 (gsC (gN 14) (gsC (gN 15) gsN))) (gsC (gN 4) gsN))) tYs (m2 (gEq false) (pk 15) (oD (nTup (aC (cs (.str "merged")) (aC (vr 4) aN))))) [4, 14, 15]))) aN)))) (sRet (cs (.bl false))) sNx) (sSeq (sParA [12, 13] (avV (mCb (gMM PySem.W.maxD) (aC (oD (nFz (nLc (iV (vr 10)) (gT 2 (gsC (gN 14) (gsC (gN 15) gsN))) tYs (mCb gLen (aC (pk 14) aN)) [14, 15]))) aN)) (avV (mCb gSum (aC (oD (nFz (nLc (iV (vr 10)) (gT 2 (gsC (gN 14) (gsC (gN 15) gsN))) tYs (mCb gLen (aC (pk 14) aN)) [14, 15]))) aN)) avN))) (sSeq (sSet 4 (mCall f__law_of [] (aC (vr 0) (aC (vr 1) aN)))) (sSeq (sIf (mB (m2 (gEq true) (oD (mCall f_compared_by [] (aC (vr 5) (aC (vr 6) (aC (vr 9) (aC (vr 4) aN)))))) (oD (m2 gIx (oD (mCall f__law_led [] (aC (vr 2) (aC (vr 9) (aC (vr 4) aN))))) (oD (cs (.int 0))))))) (sRet (cs (.bl false))) sNx) (sSeq (sIf (tOr (mB (m2 gLt (pk 12) (pk 7))) (mB (m2 gLt (pk 13) (pk 8)))) (sRet (cs (.bl false))) sNx) (sSeq (sIf (mB (m2 (gEq true) (oD (mCb gReprB (aC (oD (mCall f_shows_fewest_comparisons [] (aC (vr 5) (aC (vr 6) (aC (nTup (aC (vr 12) (aC (vr 9) aN))) aN))))) aN))) (oD (mCb gReprB (aC (oD (m2 (gEq false) (pk 12) (pk 7))) aN))))) (sRet (cs (.bl false))) sNx) (sIf (mB (m2 (gEq true) (oD (mCb gReprB (aC (oD (mCall f_shows_least_comparisons [] (aC (vr 5) (aC (vr 6) (aC (nTup (aC (vr 13) (aC (vr 9) aN))) aN))))) aN))) (oD (mCb gReprB (aC (oD (m2 (gEq false) (pk 13) (pk 8))) aN))))) (sRet (cs (.bl false))) sNx)))))))))))) (sSeq (sFor (iV (mCall f__law_some [] (aC (vr 0) (aC (vr 1) (aC (mCb gMin2 (aC (oD (mCb gLen (aC (pk 1) aN))) (aC (oD (cs (.int 5))) aN))) aN))))) (gN 4) (sSeq (sSet 11 (mCall f__law_heads [] (aC (vr 4) (aC (vr 5) (aC (vr 6) aN))))) (sIf (tOr (mB (m2 (gEq true) (oD (mCall f_by_heads [] (aC (vr 5) (aC (vr 6) (aC (vr 4) aN))))) (pk 11))) (mB (m2 gGt (oD (mCb gLen (aC (pk 11) aN))) (oD (m2 gSub (oD (m2 gAdd (pk 5) (pk 6))) (oD (cs (.int 1)))))))) (sRet (cs (.bl false))) sNx))) (sRet (vAnd (m2 (gEq false) (oD (m2 gIx (oD (mCall f_fewest_comparisons [] (aC (vr 6) (aC (vr 5) aN)))) (oD (cs (.int 0))))) (pk 7)) (m2 (gEq false) (oD (m2 gIx (oD (mCall f_least_comparisons [] (aC (vr 6) (aC (vr 5) aN)))) (oD (cs (.int 0))))) (pk 8)))))))))) [(some (SV.val (.loc n))), none, none, none, none, (some (SV.val (.int F))), (some (SV.val (.int G))), none, none, none, none, none, none, none, none, none] S fun fl _ S' => WR fl fun d => d = .bl true ∧ Drw n (t + 900) S S' := by
  have hcl := hP.cl
  obtain ⟨d1, ef1⟩ := env.few1 S hcl
  obtain ⟨d2, el1⟩ := env.lea1 S hcl
  have hEE : eqOk (tM E) (tM E) := eqOk_l ((pd_tM E).mono (by decide)) (pd_tM E).1
  simp? [env.mer, env.lmer, env.tab, ef1, el1, hEE, deq_tM]
  refine wfo (l0 := [0, 1, 2]) (inj := D.int) (fun pre sl S' => Drw n (t + 200 * pre.length) S S' ∧ ∃ a b c d e g h, sl = [(some (SV.val (.loc n))), (some (SV.val (.lst (E.map fun m => tZ m)))), (some (SV.val (tbD (tabL F G E)))), a, b, (some (SV.val (.int F))), (some (SV.val (.int G))), (some (SV.val (.int few))), (some (SV.val (.int least))), c, d, e, g, h, none, none]) (by rfl) ⟨Drw.refl hP, _, _, _, _, _, _, _, rfl⟩ ?_ ?_
  · rintro pre way post sl S1 e ⟨hD, a, b, c, d, e', g, h, rfl⟩
    have hway : way = 0 ∨ way = 1 ∨ way = 2 := by
      have : way ∈ [0, 1, 2] := by rw [e]; simp
      simpa using this
    have hpre : pre.length < 3 := by
      have := congrArg List.length e
      simp at this; omega
    simp? [w_nx]
    refine WO.mono (asking_spec env.sh n way hway 39 E S1 (t + 200 * pre.length) (by have := env.l20; omega) env.ne env.set (fun _ h => h) (by have := env.l20; omega) hD.po (by have := env.l20; omega)) ?_
    rintro ⟨dd, S2⟩ ⟨q, rfl, hq, hD2⟩
    have hdq : q.dep < 20 := Nat.lt_of_lt_of_le hq.dep env.l20
    have hqw := hq.wf env.okk
    have hok : okB F G q E = true := (okB_ok env.okk.sh).mpr hq
    simp? [env.ism q S2 (by omega) hqw, hok]
    refine WO.mono (bent_spec env.sh n 40 q E S2 _ (by omega) hq env.okk hD2.po (by have := env.l20; omega)) ?_
    rintro ⟨dd, S3⟩ ⟨q', rfl, hw', hd', hno, hD3⟩
    simp? [env.ism q' S3 (by omega) hw', hno]
    have hlE : E.length ≤ sizeLine := le_szC (c := 20) env.l20
    refine wlcA E (inj := fun m => tZ m) (lotD q) rfl hlE ?_ ?_
    · intro m hm
      simp? [env.led q m S3 hq hm]
      rfl
    simp? [w_nx]
    have ez : (E.map (lotD q)).zipWith (fun d e => D.pr [d, e]) (E.map fun m => tZ m) = E.map fun m => .pr [lotD q m, tZ m] := zip_same _ _ E
    rw [ez]
    refine wlcA E (inj := fun m => .pr [lotD q m, tZ m]) (fun m => .bl true) rfl hlE ?_ ?_
    · intro m hm
      have h1 : eqOk (dP (.lf m)) (.tup [.str "merged", tZ m]) := eqOk_l ((pd_tup (k := 2) (pds_cons pd_str (pds_cons ((pd_tZ (k := 0) m).mono (by decide)) pds_nil))).mono (by decide)) (pl_dP (.lf m))
      have h2 : deq (dP (.lf m)) (.tup [.str "merged", tZ m]) = true := by
        rw [dP, deq_tt, deqs_cc, deqs_cc, deqs_nn, deq_strD, dtZ]
        simp
      simp? [lotD, h1, h2, vwD_dP]
    have hb : blsOf (E.map fun _ => D.bl true) = some (E.map fun _ => true) := bls_map (f := fun _ => true) E
    have hb2 : (E.map fun _ => true).all id = true := by simp
    simp? [hb, hb2]
    have hlen : ∀ m, ((trail q m).map qD).length = plen q m := fun m => by rw [List.length_map, trail_len]
    refine wlcA E (inj := lotD q) (fun m => .int ((plen q m : Nat) : Int)) rfl hlE ?_ ?_
    · intro m hm
      simp? [lotD, trail_len]
    have hne := env.ne
    have hmx : ((E.map fun m => (plen q m : Int))) = (E.map (plen q)).map fun x : Nat => (x : Int) := by rw [List.map_map]; rfl
    have hmm : mmOk (E.map fun m => D.int ((plen q m : Nat) : Int)) := by
      have := mmOk_ints (E.map fun m => ((plen q m : Nat) : Int))
      rw [List.map_map] at this
      exact this
    have hmd : mmD PySem.W.maxD (E.map fun m => D.int ((plen q m : Nat) : Int)) = .int (cost false q E : Nat) := by
      have := mm_maxI (l := E.map fun m => ((plen q m : Nat) : Int)) (by simpa using hne)
      rw [hmx, maxN_int (by simpa using hne), ← cost_max hq, List.map_map, List.map_map] at this
      exact this
    have hne2 : ¬ (E.map (fun m => D.int ((plen q m : Nat) : Int)) = []) := by simpa using hne
    simp? [hmm, hmd, hne2, ne_eq, not_false_eq_true]
    refine wlcA E (inj := lotD q) (fun m => .int ((plen q m : Nat) : Int)) rfl hlE ?_ ?_
    · intro m hm
      simp? [lotD, trail_len]
    have hint : intsOf (E.map fun m => D.int ((plen q m : Nat) : Int)) = some (E.map fun m => ((plen q m : Nat) : Int)) := ints_map E
    have hsum : (E.map fun m => ((plen q m : Nat) : Int)).sum = (cost true q E : Nat) := by rw [hmx, sum_int, ← cost_sum hq]
    simp? [hint, hsum]
    refine WO.mono (of_spec (t := t + 200 * pre.length + (E.length - 1) + 2 * q.dep) hD3.po (by have := env.l20; omega) (by simpa using hne) (by rw [List.length_map]; have := env.l20; omega) (fun d hd S => by
      obtain ⟨m, _, rfl⟩ := List.mem_map.mp hd
      rfl)) ?_
    rintro ⟨dd, S4⟩ ⟨hdm, hD4⟩
    obtain ⟨m, hm, rfl⟩ := List.mem_map.mp hdm
    have hcl4 := hD4.po.cl
    have hqq : eqOk (.tup ((trail q m).map qD)) (.tup ((trail q m).map qD)) := eqOk_l ((pd_tqD _).mono (by decide)) (pd_tqD _).1
    have g1 := env.ge1 q hq
    have g2 := env.ge2 q hq
    have n1 : ¬ (cost false q E < few) := by omega
    have n2 : ¬ (cost true q E < least) := by omega
    have eb : ∀ c c' : Bool, deq (.str (if c = true then "True" else "False")) (.str (if c' = true then "True" else "False")) = decide (c = c') := fun c c' => by
      rw [deq_strD]
      cases c <;> cases c' <;> decide
    simp? [env.cmp q m S4 hq hm, env.led q m S4 hq hm, hqq, deq_tqD, Int.ofNat_lt, n1, n2, env.sh1 q S4 hcl4 hq, env.sh2 q S4 hcl4 hq, eb, Int.natCast_inj]
    have hE20 := env.l20
    exact ⟨((((hD.trans hD2).trans hD3).trans hD4)).mono (by simp; omega), _, _, _, _, _, _, _, rfl⟩
  · rintro sl S1 ⟨hD, a, b, c, d, e', g, h, rfl⟩
    have hE20 := env.l20
    have hcl1 := hD.po.cl
    have hk : (if (5 : Int) < (E.length : Nat) then 5 else ((E.length : Nat) : Int)) = ((min E.length 5 : Nat) : Int) := by
      split <;> omega
    simp only [List.length_cons, List.length_nil] at hD
    simp? [w_nx]
    rw [hk]
    refine WO.mono (some_spec hD.po (by omega) (by rw [List.length_map]; omega) (by rw [List.length_map]; omega)) ?_
    rintro ⟨dd, S2⟩ ⟨es, rest, rfl, hes, hperm, hD2⟩
    obtain ⟨ms, rfl, hms⟩ := list_of (l := es) (P := fun m => m ∈ E) (f := fun m : Mg => tZ m) fun d hd => by
      have := hperm.mem_iff.mp (List.mem_append_left rest hd)
      obtain ⟨m, hm, e⟩ := List.mem_map.mp this
      exact ⟨m, hm, e.symm⟩
    obtain ⟨d3, ef2⟩ := env.few2 S2 hD2.po.cl
    obtain ⟨d4, el2⟩ := env.lea2 S2 hD2.po.cl
    simp? [w_nx]
    refine wfoC (l0 := ms) (inj := fun m => tZ m) (fun pre sl => ∃ a b c d e g h, sl = [(some (SV.val (.loc n))), (some (SV.val (.lst (E.map fun m => tZ m)))), (some (SV.val (tbD (tabL F G E)))), a, b, (some (SV.val (.int F))), (some (SV.val (.int G))), (some (SV.val (.int few))), (some (SV.val (.int least))), c, d, e, g, h, none, none]) rfl ⟨_, _, _, _, _, _, _, rfl⟩ ?_ ?_
    · rintro pre m post sl e ⟨a, b, c, d, e', g, h, rfl⟩
      have hm : m ∈ E := hms m (by rw [e]; simp)
      have hI := env.okk.sh m hm
      have hhl := heads_len F G m 0 0 hI.1 (by rw [hI.2.1]; omega) (by rw [hI.2.2]; omega)
      have hml := len_of hI
      have hqq : eqOk (.tup ((heads F G m 0 0).map qD)) (.tup ((heads F G m 0 0).map qD)) := eqOk_l ((pd_tqD _).mono (by decide)) (pd_tqD _).1
      have hf0 := env.sh.f0
      have nn : ¬ ((F : Int) + G - 1 < ((heads F G m 0 0).length : Int)) := by omega
      simp? [env.hd m S2 hm, env.lhd m S2 hm, hqq, deq_tqD, nn]
      exact ⟨_, _, _, _, _, _, _, rfl⟩
    · rintro sl ⟨a, b, c, d, e', g, h, rfl⟩
      simp? [ef2, el2]
      exact (hD.trans hD2).mono (by omega)
theorem right_spec {n t : Nat} {S : Sto} (hP : Pot n t S) (ht : t + 2000 < 1000000) : WO (f__law_right [.loc n] S) fun p => p.1 = .bl true ∧ Drw n (t + 1000) S p.2 := by
  have fin : ∀ (F G : Nat) (S4 : Sto), Sh F G → Drw n (t + 10) S S4 → WM (sSeq (sSet 1 (mCall f__law_merges [] (aC (vr 5) (aC (vr 6) aN)))) (sSeq (sIf (mB (m2 (gEq true) (oD (mCall f_merges [] (aC (vr 5) (aC (vr 6) aN)))) (oD (mCb gTuple (aC (pk 1) aN))))) (sRet (cs (.bl false))) sNx) (sSeq (sSet 2 (mCall f__law_table [] (aC (vr 1) (aC (vr 5) (aC (vr 6) aN))))) (sSeq (sParA [7, 8] (avV (m2 gIx (oD (mCall f_fewest_comparisons [] (aC (vr 5) (aC (vr 6) aN)))) (oD (cs (.int 0)))) (avV (m2 gIx (oD (mCall f_least_comparisons [] (aC (vr 5) (aC (vr 6) aN)))) (oD (cs (.int 0)))) avN))) (sSeq (sFor (iV (nTup (aC (cs (.int 0)) (aC (cs (.int 1)) (aC (cs (.int 2)) aN))))) (gN 3) (sSeq (sSet 9 (mCall (f__law_asking 40) [] (aC (vr 0) (aC (vr 2) (aC (vr 1) (aC (vr 3) aN)))))) (sSeq (sIf (mB (m2 (gIs true) (oD (mCall f_is_merging [] (aC (vr 5) (aC (vr 6) (aC (vr 9) aN))))) (oD (cs (.bl true))))) (sRet (cs (.bl false))) sNx) (sSeq (sIf (mB (m2 (gIs true) (oD (mCall f_is_merging [] (aC (vr 5) (aC (vr 6) (aC (mCall (f__law_bent 40) [] (aC (vr 0) (aC (vr 9) aN))) aN))))) (oD (cs (.bl false))))) (sRet (cs (.bl false))) sNx) (sSeq (sOwn 10 (nLc (iV (vr 1)) (gN 4) tYs (mCall f__law_led [] (aC (vr 2) (aC (vr 9) (aC (vr 4) aN)))) [4])) (sSeq (sIf (tNot (mB (mCb (gAll false) (aC (oD (nFz (nLc (iZp (vr 10) (vr 1)) (gT 2 (gsC (gT 2 (gsC (gN 14) (gsC (gN 15) gsN))) (gsC (gN 4) gsN))) tYs (m2 (gEq false) (pk 15) (oD (nTup (aC (cs (.str "merged")) (aC (vr 4) aN))))) [4, 14, 15]))) aN)))) (sRet (cs (.bl false))) sNx) (sSeq (sParA [12, 13] (avV (mCb (gMM PySem.W.maxD) (aC (oD (nFz (nLc (iV (vr 10)) (gT 2 (gsC (gN 14) (gsC (gN 15) gsN))) tYs (mCb gLen (aC (pk 14) aN)) [14, 15]))) aN)) (avV (mCb gSum (aC (oD (nFz (nLc (iV (vr 10)) (gT 2 (gsC (gN 14) (gsC (gN 15) gsN))) tYs (mCb gLen (aC (pk 14) aN)) [14, 15]))) aN)) avN))) (sSeq (sSet 4 (mCall f__law_of [] (aC (vr 0) (aC (vr 1) aN)))) (sSeq (sIf (mB (m2 (gEq true) (oD (mCall f_compared_by [] (aC (vr 5) (aC (vr 6) (aC (vr 9) (aC (vr 4) aN)))))) (oD (m2 gIx (oD (mCall f__law_led [] (aC (vr 2) (aC (vr 9) (aC (vr 4) aN))))) (oD (cs (.int 0))))))) (sRet (cs (.bl false))) sNx) (sSeq (sIf (tOr (mB (m2 gLt (pk 12) (pk 7))) (mB (m2 gLt (pk 13) (pk 8)))) (sRet (cs (.bl false))) sNx) (sSeq (sIf (mB (m2 (gEq true) (oD (mCb gReprB (aC (oD (mCall f_shows_fewest_comparisons [] (aC (vr 5) (aC (vr 6) (aC (nTup (aC (vr 12) (aC (vr 9) aN))) aN))))) aN))) (oD (mCb gReprB (aC (oD (m2 (gEq false) (pk 12) (pk 7))) aN))))) (sRet (cs (.bl false))) sNx) (sIf (mB (m2 (gEq true) (oD (mCb gReprB (aC (oD (mCall f_shows_least_comparisons [] (aC (vr 5) (aC (vr 6) (aC (nTup (aC (vr 13) (aC (vr 9) aN))) aN))))) aN))) (oD (mCb gReprB (aC (oD (m2 (gEq false) (pk 13) (pk 8))) aN))))) (sRet (cs (.bl false))) sNx)))))))))))) (sSeq (sFor (iV (mCall f__law_some [] (aC (vr 0) (aC (vr 1) (aC (mCb gMin2 (aC (oD (mCb gLen (aC (pk 1) aN))) (aC (oD (cs (.int 5))) aN))) aN))))) (gN 4) (sSeq (sSet 11 (mCall f__law_heads [] (aC (vr 4) (aC (vr 5) (aC (vr 6) aN))))) (sIf (tOr (mB (m2 (gEq true) (oD (mCall f_by_heads [] (aC (vr 5) (aC (vr 6) (aC (vr 4) aN))))) (pk 11))) (mB (m2 gGt (oD (mCb gLen (aC (pk 11) aN))) (oD (m2 gSub (oD (m2 gAdd (pk 5) (pk 6))) (oD (cs (.int 1)))))))) (sRet (cs (.bl false))) sNx))) (sRet (vAnd (m2 (gEq false) (oD (m2 gIx (oD (mCall f_fewest_comparisons [] (aC (vr 6) (aC (vr 5) aN)))) (oD (cs (.int 0))))) (pk 7)) (m2 (gEq false) (oD (m2 gIx (oD (mCall f_least_comparisons [] (aC (vr 6) (aC (vr 5) aN)))) (oD (cs (.int 0))))) (pk 8)))))))))) [(some (SV.val (.loc n))), none, none, none, none, (some (SV.val (.int F))), (some (SV.val (.int G))), none, none, none, none, none, none, none, none, none] S4 fun fl x S' => S'.length = S.length ∧ WR fl fun d => (fun p : D × Sto => p.1 = .bl true ∧ Drw n (t + 1000) S p.2) (d, S') := fun F G S4 hs hD => by
    refine (right_rest (env hs) hD.po (by omega)).mono fun fl sl' S' h => ?_
    cases fl with
    | rt d => exact ⟨h.2.ln.trans hD.ln, h.1, (hD.trans h.2).mono (by omega)⟩
    | nx => exact absurd h.1 (by simp)
    | _ => exact h.elim
  refine w_def [(some (SV.val (.loc n))), none, none, none, none, none, none, none, none, none, none, none, none, none, none, none] rfl rfl ?_
  unfold b__law_right
  generalize (sSeq (sSet 1 (mCall f__law_merges [] (aC (vr 5) (aC (vr 6) aN)))) (sSeq (sIf (mB (m2 (gEq true) (oD (mCall f_merges [] (aC (vr 5) (aC (vr 6) aN)))) (oD (mCb gTuple (aC (pk 1) aN))))) (sRet (cs (.bl false))) sNx) (sSeq (sSet 2 (mCall f__law_table [] (aC (vr 1) (aC (vr 5) (aC (vr 6) aN))))) (sSeq (sParA [7, 8] (avV (m2 gIx (oD (mCall f_fewest_comparisons [] (aC (vr 5) (aC (vr 6) aN)))) (oD (cs (.int 0)))) (avV (m2 gIx (oD (mCall f_least_comparisons [] (aC (vr 5) (aC (vr 6) aN)))) (oD (cs (.int 0)))) avN))) (sSeq (sFor (iV (nTup (aC (cs (.int 0)) (aC (cs (.int 1)) (aC (cs (.int 2)) aN))))) (gN 3) (sSeq (sSet 9 (mCall (f__law_asking 40) [] (aC (vr 0) (aC (vr 2) (aC (vr 1) (aC (vr 3) aN)))))) (sSeq (sIf (mB (m2 (gIs true) (oD (mCall f_is_merging [] (aC (vr 5) (aC (vr 6) (aC (vr 9) aN))))) (oD (cs (.bl true))))) (sRet (cs (.bl false))) sNx) (sSeq (sIf (mB (m2 (gIs true) (oD (mCall f_is_merging [] (aC (vr 5) (aC (vr 6) (aC (mCall (f__law_bent 40) [] (aC (vr 0) (aC (vr 9) aN))) aN))))) (oD (cs (.bl false))))) (sRet (cs (.bl false))) sNx) (sSeq (sOwn 10 (nLc (iV (vr 1)) (gN 4) tYs (mCall f__law_led [] (aC (vr 2) (aC (vr 9) (aC (vr 4) aN)))) [4])) (sSeq (sIf (tNot (mB (mCb (gAll false) (aC (oD (nFz (nLc (iZp (vr 10) (vr 1)) (gT 2 (gsC (gT 2 (gsC (gN 14) (gsC (gN 15) gsN))) (gsC (gN 4) gsN))) tYs (m2 (gEq false) (pk 15) (oD (nTup (aC (cs (.str "merged")) (aC (vr 4) aN))))) [4, 14, 15]))) aN)))) (sRet (cs (.bl false))) sNx) (sSeq (sParA [12, 13] (avV (mCb (gMM PySem.W.maxD) (aC (oD (nFz (nLc (iV (vr 10)) (gT 2 (gsC (gN 14) (gsC (gN 15) gsN))) tYs (mCb gLen (aC (pk 14) aN)) [14, 15]))) aN)) (avV (mCb gSum (aC (oD (nFz (nLc (iV (vr 10)) (gT 2 (gsC (gN 14) (gsC (gN 15) gsN))) tYs (mCb gLen (aC (pk 14) aN)) [14, 15]))) aN)) avN))) (sSeq (sSet 4 (mCall f__law_of [] (aC (vr 0) (aC (vr 1) aN)))) (sSeq (sIf (mB (m2 (gEq true) (oD (mCall f_compared_by [] (aC (vr 5) (aC (vr 6) (aC (vr 9) (aC (vr 4) aN)))))) (oD (m2 gIx (oD (mCall f__law_led [] (aC (vr 2) (aC (vr 9) (aC (vr 4) aN))))) (oD (cs (.int 0))))))) (sRet (cs (.bl false))) sNx) (sSeq (sIf (tOr (mB (m2 gLt (pk 12) (pk 7))) (mB (m2 gLt (pk 13) (pk 8)))) (sRet (cs (.bl false))) sNx) (sSeq (sIf (mB (m2 (gEq true) (oD (mCb gReprB (aC (oD (mCall f_shows_fewest_comparisons [] (aC (vr 5) (aC (vr 6) (aC (nTup (aC (vr 12) (aC (vr 9) aN))) aN))))) aN))) (oD (mCb gReprB (aC (oD (m2 (gEq false) (pk 12) (pk 7))) aN))))) (sRet (cs (.bl false))) sNx) (sIf (mB (m2 (gEq true) (oD (mCb gReprB (aC (oD (mCall f_shows_least_comparisons [] (aC (vr 5) (aC (vr 6) (aC (nTup (aC (vr 13) (aC (vr 9) aN))) aN))))) aN))) (oD (mCb gReprB (aC (oD (m2 (gEq false) (pk 13) (pk 8))) aN))))) (sRet (cs (.bl false))) sNx)))))))))))) (sSeq (sFor (iV (mCall f__law_some [] (aC (vr 0) (aC (vr 1) (aC (mCb gMin2 (aC (oD (mCb gLen (aC (pk 1) aN))) (aC (oD (cs (.int 5))) aN))) aN))))) (gN 4) (sSeq (sSet 11 (mCall f__law_heads [] (aC (vr 4) (aC (vr 5) (aC (vr 6) aN))))) (sIf (tOr (mB (m2 (gEq true) (oD (mCall f_by_heads [] (aC (vr 5) (aC (vr 6) (aC (vr 4) aN))))) (pk 11))) (mB (m2 gGt (oD (mCb gLen (aC (pk 11) aN))) (oD (m2 gSub (oD (m2 gAdd (pk 5) (pk 6))) (oD (cs (.int 1)))))))) (sRet (cs (.bl false))) sNx))) (sRet (vAnd (m2 (gEq false) (oD (m2 gIx (oD (mCall f_fewest_comparisons [] (aC (vr 6) (aC (vr 5) aN)))) (oD (cs (.int 0))))) (pk 7)) (m2 (gEq false) (oD (m2 gIx (oD (mCall f_least_comparisons [] (aC (vr 6) (aC (vr 5) aN)))) (oD (cs (.int 0))))) (pk 8)))))))))) = R at fin ⊢
  simp? [w_nx]
  refine WO.mono (take_spec hP (by omega) (by omega) (by omega)) ?_
  rintro ⟨dd, S1⟩ ⟨v1, rfl, a0, a1, hD1⟩
  simp? [w_nx]
  refine WO.mono (take_spec hD1.po (by omega) (by omega) (by omega)) ?_
  rintro ⟨dd, S2⟩ ⟨v2, rfl, b0, b1, hD2⟩
  simp? [w_nx]
  refine WO.mono (take_spec hD2.po (by omega) (by omega) (by omega)) ?_
  rintro ⟨dd, S3⟩ ⟨v3, rfl, c0, c1, hD3⟩
  simp? [w_nx]
  have dr3 : Drw n (t + 3) S S3 := (hD1.trans hD2).trans hD3
  refine WI_d (fun hv => ?_) fun hv => ?_
  · refine WO.mono (of_spec (t := t + 3) dr3.po (by omega) (by simp) (by simp) (fun d hd S => by
      simp only [List.mem_cons, List.not_mem_nil, or_false] at hd
      rcases hd with rfl | rfl | rfl | rfl <;> rfl)) ?_
    rintro ⟨dd, S4⟩ ⟨hd, hD4⟩
    have dr4 : Drw n (t + 10) S S4 := (dr3.trans hD4).mono (by omega)
    simp only [List.mem_cons, List.not_mem_nil, or_false] at hd
    rcases hd with rfl | rfl | rfl | rfl
    · simp? [w_nx]
      exact fin 5 1 S4 ⟨by decide, by decide, by decide⟩ dr4
    · simp? [w_nx]
      exact fin 1 5 S4 ⟨by decide, by decide, by decide⟩ dr4
    · simp? [w_nx]
      exact fin 4 2 S4 ⟨by decide, by decide, by decide⟩ dr4
    · simp? [w_nx]
      exact fin 2 4 S4 ⟨by decide, by decide, by decide⟩ dr4
  · obtain ⟨x, rfl⟩ := Int.eq_ofNat_of_zero_le a0
    obtain ⟨y, rfl⟩ := Int.eq_ofNat_of_zero_le b0
    have e1 : (1 : Int) + (x : Int) = ((1 + x : Nat) : Int) := by omega
    have e2 : (1 : Int) + (y : Int) = ((1 + y : Nat) : Int) := by omega
    rw [e1, e2]
    exact fin (1 + x) (1 + y) S3 ⟨by omega, by omega, by omega⟩ (dr3.mono (by omega))
theorem plain (ns : List Int) (h : ns.length ≤ 63) : ∃ S', f_law [.lst (ns.map D.int)] [] = some (.bl true, S') := by
  suffices q : WO (f_law [.lst (ns.map D.int)] []) fun p => p.1 = .bl true by
    obtain ⟨⟨d, S'⟩, e, rfl⟩ := q
    exact ⟨S', e⟩
  refine w_defR [(some (SV.val (.lst (ns.map .int)))), none, none, none] rfl rfl ?_
  obtain ⟨k, hk, ec⟩ := cells_spec (S := []) ns h
  simp? [b_law, ec]
  refine wfo (l0 := List.range k) (inj := fun i => .int ((i : Nat) : Int)) (fun pre sl S' => ClS S' ∧ ∃ a b, sl = [(some (SV.val (.lst (ns.map .int)))), a, b, none]) rfl ⟨clS_nil, _, _, rfl⟩ ?_ ?_
  · rintro pre i post sl S1 e ⟨hS, a, b, rfl⟩
    have hi : i < 2 := by
      have : i ∈ List.range k := by rw [e]; simp
      have := List.mem_range.mp this
      omega
    simp? [w_nx]
    refine WO.mono (pot_spec hS ns h i hi) ?_
    rintro ⟨dd, S2⟩ ⟨rfl, X, rfl, hP⟩
    have h1 : (1 : Int) = ((1 : Nat) : Int) := rfl
    simp? [w_nx]
    rw [h1, w_r1 (by omega)]
    refine wlcI (l0 := List.range 1) (inj := fun i => .int ((i : Nat) : Int)) (fun pre acc S' => acc = pre.map (fun _ => D.bl true) ∧ Pot S1.length (2000 * pre.length) S') rfl ⟨rfl, hP⟩ ?_ ?_
    · rintro pre j post acc S3 e ⟨rfl, hP3⟩
      have hpre : pre.length < 1 := by
        have := congrArg List.length e
        simp at this; omega
      simp? [w_nx]
      refine WO.mono (right_spec hP3 (by omega)) ?_
      rintro ⟨dd, S4⟩ ⟨rfl, hD⟩
      exact ⟨lt_szC (c := 10) (by omega), by simp, hD.po.mono (by simp; omega)⟩
    · rintro acc S3 ⟨rfl, hP3⟩
      have hb : blsOf ((List.range 1).map fun _ => D.bl true) = some ((List.range 1).map fun _ => true) := bls_map (f := fun _ => true) _
      have hb2 : ((List.range 1).map fun _ => true).all id = true := by simp
      simp? [hb, hb2]
      exact ⟨hP3.cl, _, _, rfl⟩
  · rintro sl S1 ⟨hS, a, b, rfl⟩
    simp? [w_nx]
    have := rel_app (S := []) (X := S1) (d := .bl true) clS_nil cl_bl
    rw [List.nil_append] at this
    rw [show ([] : Sto).length = 0 from rfl] at this
    simp? [this]
end K37

namespace K37
open PySem PySem.Spec PyProof.Rows L2 PS
abbrev R : PySem.W.OpenRow := PySem.W.OpenLaw.row PySem.Challenge.rw_rightbetween_k37_whole_merges_by_many_wa
abbrev hk : PySem.W.Hook := He.hookD 6 fa0 fn0
def ob (s : PySem.W.SharedT) : He.AlD := He.obsDG 6 fa0 fn0 (HandSHeadRun.getT s)
theorem ob_eq (s : PySem.W.SharedT) : ob s = hk.obs s.abs := He.obsDG_eq (HandSHeadRun.getT_eq s)
def loose : List PySem.Str := (["RowError", "BadNumber", "TooMany", "BadMerge", "BadAsking", "is_integer", "is_between", "MERGED", "COMPARE", "MOST_EACH", "MOST_BOTH", "check_lengths"] : List PySem.Str) ++ (["told_merges", "merges", "is_merge_of", "spots_of", "is_less", "parted", "questions", "by_heads", "does_merge", "is_merging", "comparisons_to", "compared_by"] : List PySem.Str) ++ (["Mergers", "check_both", "told_comparisons", "fewest_comparisons", "least_comparisons", "does_show_merging", "shows_fewest_comparisons", "shows_least_comparisons", "_law_take", "_law_of", "_law_some", "_law_cells"] : List PySem.Str) ++ (["_law_pot", "_law_merges", "_law_table", "_law_useful", "_law_asking", "_law_led", "_law_heads", "_law_bent", "_law_right"] : List PySem.Str)
theorem run (w : World) : HandSHeadRun.RunEq R (PySem.W.view R.prog [49]) hk ob 4000 loose w := by
  intro os
  kernel_rfl
theorem facts {P : Program} {w : World} {K : PySem.W.Frag} {h : Heap} {mg : Str → Option Value} {f : Addr} (X : K.In h) (G : h.Ns mainGlobals mg) (hfa : mg ("law" : Str) = some (.ref f)) (c : He.SaysD fa0 fn0 K) :
    ∃ fd : FuncData, (∀ (s : Shared) (v : Value), BindsTo s fd ⟨[v], []⟩ [("script", v)]) ∧ ∀ base : Heap, K.In base → base.Ns mainGlobals mg → FnOk P w K mg base CX0 49 f fd ["script"] (spOf ⟨P, w, K, mg⟩ f_law) := by
  have e := hfa.symm.trans (HF.m_law ⟨X, G, c⟩)
  cases e
  exact law_facts (c.def_ 39) (fun _ _ _ _ _ _ us hl => match us, hl with | [_], _ => rfl) fun base h1 h2 => ok_law ⟨h1, h2, c⟩
end K37
open PySem PySem.W PySem.Calls PyProof.Rows
theorem PySem.Challenge.cw_rightbetween_k37_whole_merges_by_many_wa_holds : PySem.Challenge.rw_rightbetween_k37_whole_merges_by_many_wa.Holds := by
  w_on; o_law
  refine HandSHeadRun.head_any (r := OpenLaw.row PySem.Challenge.rw_rightbetween_k37_whole_merges_by_many_wa) (q := view (OpenLaw.row PySem.Challenge.rw_rightbetween_k37_whole_merges_by_many_wa).prog [49]) (H := K37.hk) (ob := K37.ob) (M := 4000) (loose := K37.loose) (d := HandSHeadRun.topDef (OpenLaw.row PySem.Challenge.rw_rightbetween_k37_whole_merges_by_many_wa).prog 49) (kwd := []) K37.ob_eq
    (by kernel_rfl) (fun s => by kernel_rfl) K37.run (by kernel_rfl) (by kernel_rfl) (by kernel_rfl) (by rfl) (by first | assumption | decide +kernel) (by decide +kernel) ⟨rfl, rfl, rfl, rfl, rfl, by decide +kernel⟩ ?hw ?hc
  case hw => w_witness2
  case hc =>
    refine L2.walk_ofE (l := PySem.Challenge.rw_rightbetween_k37_whole_merges_by_many_wa) (n := 63) (k := 49) (x := "script") (CX := L2.CX0) rfl (by decide) (by kernel_rfl) ⟨rfl, by decide, by decide⟩ ?F (fun _ _ _ _ z => z)
    intro w mg fa h Y G hmg0
    obtain ⟨K, KX, c⟩ := Y
    have hmg : mg ("law" : PySem.Str) = some (.ref fa) := by
      have e : (HandSHeadRun.topDef (OpenLaw.row PySem.Challenge.rw_rightbetween_k37_whole_merges_by_many_wa).prog 49).name = ("law" : PySem.Str) := by kernel_rfl
      rw [← e]
      exact hmg0
    obtain ⟨fd, hb, hF⟩ := K37.facts (P := (PySem.Challenge.rw_rightbetween_k37_whole_merges_by_many_wa).prog) (w := w) KX G hmg c
    exact ⟨K, fd, _, KX, hb, fun H a ns hl _ hS => PS.law_end hS (K37.plain ns hl), hF⟩

